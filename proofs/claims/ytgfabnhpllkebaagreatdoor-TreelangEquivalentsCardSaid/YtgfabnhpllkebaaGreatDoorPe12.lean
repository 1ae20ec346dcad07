/-
  Walks of functions and plain laws of the chapter, as the claim needs them.
-/
import Derived.Test.YtgfabnhpllkebaaGreatDoorPe11
import Derived.Test.YtgfabnhpllkebaaGreatDoorPe10
import Derived.Test.YtgfabnhpllkebaaGreatDoorPe09
import Derived.Test.YtgfabnhpllkebaaGreatDoorPe01
namespace Go.Proofs.YtgfabnhpllkebaaGreatDoor
open Go.RowKit Go.Cb Go.En Tryz
set_option linter.all false
set_option maxRecDepth 100000
def x0P:PrS:=((0,0),(-1,-1))
def ZoI (A B:Aut) (op:Int) (p:PV):Prop:=(∃q,prodQ A B=some q∧p= .tup [S7 (JM A B op q),pMvs (q.1.map mvB),pInt 0])∨(prodQ A B=none∧p= .tup [pTZ,pMvs [],pInt 13])
theorem L' (e:Nat) (L:List Nat) (z:Int) (n:Nat) (h:z=(n:Int)):PV.own e 1 (L.length+1) ((toI L).map pInt++[pInt z])= .own e 1 (L++[n]).length ((toI (L++[n])).map pInt):=by rw [h];exact WW e L n
set_option maxHeartbeats 8000000 in
theorem ζa (a b A B : Aut) (op : Int) (hma:a.moves.length≤1000000) (hmb:b.moves.length≤1000000) (ha:Z1 a=true) (hb:Z1 b=true) (hs:a.syms=b.syms) (ho:¬(op<1∨4<op)) (hmA:AF prog 143 [ZJ a] (· = .tup [ZJ A,pInt 0])) (hmB:AF prog 143 [ZJ b] (· = .tup [ZJ B,pInt 0])) (dA:DetA A) (dB:DetA B) (sA:A.syms=a.syms) (sB:B.syms=b.syms):AF prog 148 [ZJ a,ZJ b,pInt op] (ZoI A B op):=by
 have hva:=Yc a hma
 have hvb:=Yc b hmb
 rw [ha] at hva
 rw [hb] at hvb
 have hAB:A.syms=B.syms:=by rw [sA,sB,hs]
 have hAn1:=dA.ok.n1
 have hBn1:=dB.ok.n1
 have hs0:=dA.ok.s0
 have hs1:=dA.ok.s1
 have hsN:((A.syms.toNat:Nat):Int)=a.syms:=oM
 have hsB:B.syms.toNat=A.syms.toNat:=by rw [hAB]
 have lA:=Dt A A.n.toNat
 have lB:=Dt B B.n.toNat
 have fA:=Du A A.n.toNat
 have fB:=Du B B.n.toNat
 refine AF.of_body 186 func148 rfl ntmps148 (Xa rfl) ?_
 intro w0 M0 vs hl hv
 obtain ⟨v0,v1,v2,rfl⟩:=Jx hl
 obtain rfl:=hv 2 _ _ rfl rfl
 clear hl hv
 refine Ze ?_
 (refine ZB 3 5 fun h3=>?_<;>refine ZB 4 5 fun h4=>?_<;>refine Zv [(.int .i64 0),(.slice none 0 0),(.slice none 0 0)] 3 6 Z6 fun h6=>?_<;>refine xL 7 Za (xL 8 Za ?_)<;>refine Zk ?_)
 ((refine yL 23 (Zs 3 Zf) fun v23 h=>?_;cases h)<;>(refine cS 24 (cA call192 (hva)) fun v24 h=>?_;cases h)<;>refine xL 25 Z' (xL 26 Zb ?_)<;>(refine yL 27 (Zs 4 Zf) fun v27 h=>?_;cases h)<;>(refine cS 28 (cA call192 (hvb)) fun v28 h=>?_;cases h)<;>refine xL 29 Z' (xL 30 ZG ?_)<;>refine Zc ?_)<;>(
 refine cX ?_ ?_<;>intro hb30
 · first
   |exact bN hb30
   |skip
 · first | exact bN hb30 | (
 refine Ze ?_;(refine xL 32 (Zd 3 ZT) ?_<;>(refine yL 33 (Zl 3 Zg) fun v33 h=>?_;cases h)<;>refine xL 34 (Zd 4 ZT) ?_<;>(refine yL 35 (Zl 4 Zg) fun v35 h=>?_;cases h)<;>refine xL 36 Yn ?_<;>refine Zc ?_)
 refine cX ?_ ?_<;>intro hb36
 · exact UV hs hb36
 · refine Ze ?_;(refine xL 38 Zb (xL 39 ZQ (xL 40 Zb ?_))<;>(refine bLd 40 (fun hb40=>?_) (fun hb40=>?_)<;>(first|refine kL 41 ?_|refine xL 41 Zb ?_))<;>(first|refine kL 42 ?_|refine xL 42 Yz ?_)<;>refine xL 43 ZG ?_<;>refine Zc ?_)<;>(
 refine cX ?_ ?_<;>intro hb43
 · exfalso;first|omega|(simp_all;done)|(simp_all;omega)
 · refine Ze ?_;((refine yL 46 (Zs 3 Zf) fun v46 h=>?_;cases h)<;>(refine cP 47 (cA call143 (hmA)) fun va47 vb47 hva47 h=>?_;cases h)<;>refine xL 45 Zb (xL 48 Zi (xL 49 Zi ?_))<;>refine Zv [(.int .i64 0),(.int .i64 0),(.slice none 0 0),(.slice none 0 0),(.slice none 0 0)] 5 9 ZI fun h9=>?_<;>refine Zz 9 Zf ?_<;>refine xL 10 Za ?_<;>refine Zk ?_)
   (refine xL 50 Zb (xL 51 Yn ?_)<;>refine Zc ?_)
   refine cX ?_ ?_<;>intro hb51
   · first|omega|exact UV rfl hb51|exact bN hb51
   · refine Ze ?_;((refine yL 55 (Zs 4 Zf) fun v55 h=>?_;cases h)<;>(refine cP 56 (cA call143 (hmB)) fun va56 vb56 hva56 h=>?_;cases h)<;>refine xL 54 Zb (xL 57 Zi (xL 58 Zi ?_))<;>refine Zv [(.int .i64 0),(.int .i64 0),(.slice none 0 0),(.slice none 0 0),(.slice none 0 0)] 5 11 ZI fun h11=>?_<;>refine Zz 11 Zf ?_<;>refine xL 10 Za ?_<;>refine Zk ?_)
     (refine xL 59 Zb (xL 60 Yn ?_)<;>refine Zc ?_)
     refine cX ?_ ?_<;>intro hb60
     · first|omega|exact UV rfl hb60|exact bN hb60
     · refine nav ?_;refine Pe (fun z:Value×Value=>⟨[(2, .int .i64 op,pInt op),(3,padd (sbase h3) 0, .val (padd (sbase h3) 0)),(4,padd (sbase h4) 0, .val (padd (sbase h4) 0)),(6,padd (sbase h6) 0, .val (padd (sbase h6) 0)),(7, .slice none 0 0, .val (.slice none 0 0)),(8, .int .i64 0,pInt 0),(12,padd (sbase z.1) 0, .val (padd (sbase z.1) 0)),(13,padd (sbase z.2) 0, .val (padd (sbase z.2) 0))],[(3,h3, .own 39 5 1 [pInt a.n,pInt a.syms,pInts a.start,pInts a.fin,pMvs a.moves]),(4,h4, .own 39 5 1 [pInt b.n,pInt b.syms,pInts b.start,pInts b.fin,pMvs b.moves]),(6,h6, .own 188 3 1 [pInt 0, .val (.slice none 0 0), .val (.slice none 0 0)]),(12,z.1, .own 188 3 1 [pInt (A.syms.toNat:Nat), .sl (GQ A A.n.toNat).length ((GQ A A.n.toNat).map ZN), .sl (LL A A.n.toNat).length ((LL A A.n.toNat).map Wn)]),(13,z.2, .own 188 3 1 [pInt (B.syms.toNat:Nat), .sl (GQ B B.n.toNat).length ((GQ B B.n.toNat).map ZN), .sl (LL B B.n.toNat).length ((LL B B.n.toNat).map Wn)])]⟩) ?_ ?_
       · (refine ZZ (fun i=>([]:List Nat).elem i) [9,11] kR ?_<;>(refine yD 0 63 rfl (Zs 9 Zf) fun v63 h=>?_;cases h)<;>(refine yD 2 65 rfl (Zs 11 Zf) fun v65 h=>?_;cases h)<;>(refine GD 1 4 5 kR ?_ ?_ ?_;rotate_right;(focus ((refine Zm rfl fun w9 M9 N9 DQ back=>?_)<;>refine Zv [(.int .i64 0),(.slice none 0 0),(.slice none 0 0)] 3 13 Z6 fun h13=>?_<;>refine Zj (back _ (nrm ?_))<;>(refine YY 1 4 kR ?_ ?_;rotate_right;(focus ((refine Zm rfl fun w9 M9 N9 DQ back=>?_)<;>refine Zv [(.int .i64 0),(.slice none 0 0),(.slice none 0 0)] 3 12 Z6 fun h12=>?_<;>refine Zj (back _ (nrm ?_))<;>(refine Zp 1 kR ?_)<;>(refine YA (d:=64) rfl (cA call200 (Y6 A dA)) fun v64 h=>?_;cases h)<;>(refine Zp 3 kR ?_)<;>(refine YA (d:=66) rfl (cA call200 (Y6 B dB)) fun v66 h=>?_;cases h)<;>(refine Zp 6 kR ?_)<;>(refine Zm rfl fun w9 M9 N9 DQ back=>?_)<;>refine Zz 12 ZP ?_<;>refine Zj (back _ (nrm ?_))<;>(refine Zp 7 kR ?_)<;>(refine Zm rfl fun w9 M9 N9 DQ back=>?_)<;>refine Zz 13 ZP ?_<;>refine Zj (back _ (nrm ?_))));rotate_right;(focus ((refine YA (d:=64) rfl (cA call200 (Y6 A dA)) fun v64 h=>?_;cases h)<;>(refine YY 3 4 kR ?_ ?_;rotate_right;(focus ((refine Zm rfl fun w9 M9 N9 DQ back=>?_)<;>refine Zv [(.int .i64 0),(.slice none 0 0),(.slice none 0 0)] 3 12 Z6 fun h12=>?_<;>refine Zj (back _ (nrm ?_))<;>(refine Zp 3 kR ?_)<;>(refine YA (d:=66) rfl (cA call200 (Y6 B dB)) fun v66 h=>?_;cases h)<;>(refine Zp 6 kR ?_)<;>(refine Zm rfl fun w9 M9 N9 DQ back=>?_)<;>refine Zz 12 ZP ?_<;>refine Zj (back _ (nrm ?_))<;>(refine Zp 7 kR ?_)<;>(refine Zm rfl fun w9 M9 N9 DQ back=>?_)<;>refine Zz 13 ZP ?_<;>refine Zj (back _ (nrm ?_))));rotate_right;(focus ((refine YA (d:=66) rfl (cA call200 (Y6 B dB)) fun v66 h=>?_;cases h)<;>(refine Zp 4 kR ?_)<;>(refine Zm rfl fun w9 M9 N9 DQ back=>?_)<;>refine Zv [(.int .i64 0),(.slice none 0 0),(.slice none 0 0)] 3 12 Z6 fun h12=>?_<;>refine Zj (back _ (nrm ?_))<;>(refine Zp 6 kR ?_)<;>(refine Zm rfl fun w9 M9 N9 DQ back=>?_)<;>refine Zz 12 ZP ?_<;>refine Zj (back _ (nrm ?_))<;>(refine Zp 7 kR ?_)<;>(refine Zm rfl fun w9 M9 N9 DQ back=>?_)<;>refine Zz 13 ZP ?_<;>refine Zj (back _ (nrm ?_))))))))));rotate_right;(focus ((refine Zm rfl fun w9 M9 N9 DQ back=>?_)<;>refine Zv [(.int .i64 0),(.slice none 0 0),(.slice none 0 0)] 3 12 Z6 fun h12=>?_<;>refine Zj (back _ (nrm ?_))<;>(refine YY 1 5 kR ?_ ?_;rotate_right;(focus ((refine Zm rfl fun w9 M9 N9 DQ back=>?_)<;>refine Zv [(.int .i64 0),(.slice none 0 0),(.slice none 0 0)] 3 13 Z6 fun h13=>?_<;>refine Zj (back _ (nrm ?_))<;>(refine Zp 1 kR ?_)<;>(refine YA (d:=64) rfl (cA call200 (Y6 A dA)) fun v64 h=>?_;cases h)<;>(refine Zp 3 kR ?_)<;>(refine YA (d:=66) rfl (cA call200 (Y6 B dB)) fun v66 h=>?_;cases h)<;>(refine Zp 6 kR ?_)<;>(refine Zm rfl fun w9 M9 N9 DQ back=>?_)<;>refine Zz 12 ZP ?_<;>refine Zj (back _ (nrm ?_))<;>(refine Zp 7 kR ?_)<;>(refine Zm rfl fun w9 M9 N9 DQ back=>?_)<;>refine Zz 13 ZP ?_<;>refine Zj (back _ (nrm ?_))));rotate_right;(focus ((refine YA (d:=64) rfl (cA call200 (Y6 A dA)) fun v64 h=>?_;cases h)<;>(refine YY 3 5 kR ?_ ?_;rotate_right;(focus ((refine Zm rfl fun w9 M9 N9 DQ back=>?_)<;>refine Zv [(.int .i64 0),(.slice none 0 0),(.slice none 0 0)] 3 13 Z6 fun h13=>?_<;>refine Zj (back _ (nrm ?_))<;>(refine Zp 3 kR ?_)<;>(refine YA (d:=66) rfl (cA call200 (Y6 B dB)) fun v66 h=>?_;cases h)<;>(refine Zp 6 kR ?_)<;>(refine Zm rfl fun w9 M9 N9 DQ back=>?_)<;>refine Zz 12 ZP ?_<;>refine Zj (back _ (nrm ?_))<;>(refine Zp 7 kR ?_)<;>(refine Zm rfl fun w9 M9 N9 DQ back=>?_)<;>refine Zz 13 ZP ?_<;>refine Zj (back _ (nrm ?_))));rotate_right;(focus ((refine YA (d:=66) rfl (cA call200 (Y6 B dB)) fun v66 h=>?_;cases h)<;>(refine Zp 5 kR ?_)<;>(refine Zm rfl fun w9 M9 N9 DQ back=>?_)<;>refine Zv [(.int .i64 0),(.slice none 0 0),(.slice none 0 0)] 3 13 Z6 fun h13=>?_<;>refine Zj (back _ (nrm ?_))<;>(refine Zp 6 kR ?_)<;>(refine Zm rfl fun w9 M9 N9 DQ back=>?_)<;>refine Zz 12 ZP ?_<;>refine Zj (back _ (nrm ?_))<;>(refine Zp 7 kR ?_)<;>(refine Zm rfl fun w9 M9 N9 DQ back=>?_)<;>refine Zz 13 ZP ?_<;>refine Zj (back _ (nrm ?_))))))))));rotate_right;(focus ((refine YA (d:=64) rfl (cA call200 (Y6 A dA)) fun v64 h=>?_;cases h)<;>(refine GD 3 4 5 kR ?_ ?_ ?_;rotate_right;(focus ((refine Zm rfl fun w9 M9 N9 DQ back=>?_)<;>refine Zv [(.int .i64 0),(.slice none 0 0),(.slice none 0 0)] 3 13 Z6 fun h13=>?_<;>refine Zj (back _ (nrm ?_))<;>(refine YY 3 4 kR ?_ ?_;rotate_right;(focus ((refine Zm rfl fun w9 M9 N9 DQ back=>?_)<;>refine Zv [(.int .i64 0),(.slice none 0 0),(.slice none 0 0)] 3 12 Z6 fun h12=>?_<;>refine Zj (back _ (nrm ?_))<;>(refine Zp 3 kR ?_)<;>(refine YA (d:=66) rfl (cA call200 (Y6 B dB)) fun v66 h=>?_;cases h)<;>(refine Zp 6 kR ?_)<;>(refine Zm rfl fun w9 M9 N9 DQ back=>?_)<;>refine Zz 12 ZP ?_<;>refine Zj (back _ (nrm ?_))<;>(refine Zp 7 kR ?_)<;>(refine Zm rfl fun w9 M9 N9 DQ back=>?_)<;>refine Zz 13 ZP ?_<;>refine Zj (back _ (nrm ?_))));rotate_right;(focus ((refine YA (d:=66) rfl (cA call200 (Y6 B dB)) fun v66 h=>?_;cases h)<;>(refine Zp 4 kR ?_)<;>(refine Zm rfl fun w9 M9 N9 DQ back=>?_)<;>refine Zv [(.int .i64 0),(.slice none 0 0),(.slice none 0 0)] 3 12 Z6 fun h12=>?_<;>refine Zj (back _ (nrm ?_))<;>(refine Zp 6 kR ?_)<;>(refine Zm rfl fun w9 M9 N9 DQ back=>?_)<;>refine Zz 12 ZP ?_<;>refine Zj (back _ (nrm ?_))<;>(refine Zp 7 kR ?_)<;>(refine Zm rfl fun w9 M9 N9 DQ back=>?_)<;>refine Zz 13 ZP ?_<;>refine Zj (back _ (nrm ?_)))))));rotate_right;(focus ((refine Zm rfl fun w9 M9 N9 DQ back=>?_)<;>refine Zv [(.int .i64 0),(.slice none 0 0),(.slice none 0 0)] 3 12 Z6 fun h12=>?_<;>refine Zj (back _ (nrm ?_))<;>(refine YY 3 5 kR ?_ ?_;rotate_right;(focus ((refine Zm rfl fun w9 M9 N9 DQ back=>?_)<;>refine Zv [(.int .i64 0),(.slice none 0 0),(.slice none 0 0)] 3 13 Z6 fun h13=>?_<;>refine Zj (back _ (nrm ?_))<;>(refine Zp 3 kR ?_)<;>(refine YA (d:=66) rfl (cA call200 (Y6 B dB)) fun v66 h=>?_;cases h)<;>(refine Zp 6 kR ?_)<;>(refine Zm rfl fun w9 M9 N9 DQ back=>?_)<;>refine Zz 12 ZP ?_<;>refine Zj (back _ (nrm ?_))<;>(refine Zp 7 kR ?_)<;>(refine Zm rfl fun w9 M9 N9 DQ back=>?_)<;>refine Zz 13 ZP ?_<;>refine Zj (back _ (nrm ?_))));rotate_right;(focus ((refine YA (d:=66) rfl (cA call200 (Y6 B dB)) fun v66 h=>?_;cases h)<;>(refine Zp 5 kR ?_)<;>(refine Zm rfl fun w9 M9 N9 DQ back=>?_)<;>refine Zv [(.int .i64 0),(.slice none 0 0),(.slice none 0 0)] 3 13 Z6 fun h13=>?_<;>refine Zj (back _ (nrm ?_))<;>(refine Zp 6 kR ?_)<;>(refine Zm rfl fun w9 M9 N9 DQ back=>?_)<;>refine Zz 12 ZP ?_<;>refine Zj (back _ (nrm ?_))<;>(refine Zp 7 kR ?_)<;>(refine Zm rfl fun w9 M9 N9 DQ back=>?_)<;>refine Zz 13 ZP ?_<;>refine Zj (back _ (nrm ?_)))))));rotate_right;(focus ((refine YA (d:=66) rfl (cA call200 (Y6 B dB)) fun v66 h=>?_;cases h)<;>(refine YY 4 5 kR ?_ ?_;rotate_right;(focus ((refine Zm rfl fun w9 M9 N9 DQ back=>?_)<;>refine Zv [(.int .i64 0),(.slice none 0 0),(.slice none 0 0)] 3 13 Z6 fun h13=>?_<;>refine Zj (back _ (nrm ?_))<;>(refine Zp 4 kR ?_)<;>(refine Zm rfl fun w9 M9 N9 DQ back=>?_)<;>refine Zv [(.int .i64 0),(.slice none 0 0),(.slice none 0 0)] 3 12 Z6 fun h12=>?_<;>refine Zj (back _ (nrm ?_))<;>(refine Zp 6 kR ?_)<;>(refine Zm rfl fun w9 M9 N9 DQ back=>?_)<;>refine Zz 12 ZP ?_<;>refine Zj (back _ (nrm ?_))<;>(refine Zp 7 kR ?_)<;>(refine Zm rfl fun w9 M9 N9 DQ back=>?_)<;>refine Zz 13 ZP ?_<;>refine Zj (back _ (nrm ?_))));rotate_right;(focus ((refine Zm rfl fun w9 M9 N9 DQ back=>?_)<;>refine Zv [(.int .i64 0),(.slice none 0 0),(.slice none 0 0)] 3 12 Z6 fun h12=>?_<;>refine Zj (back _ (nrm ?_))<;>(refine Zp 5 kR ?_)<;>(refine Zm rfl fun w9 M9 N9 DQ back=>?_)<;>refine Zv [(.int .i64 0),(.slice none 0 0),(.slice none 0 0)] 3 13 Z6 fun h13=>?_<;>refine Zj (back _ (nrm ?_))<;>(refine Zp 6 kR ?_)<;>(refine Zm rfl fun w9 M9 N9 DQ back=>?_)<;>refine Zz 12 ZP ?_<;>refine Zj (back _ (nrm ?_))<;>(refine Zp 7 kR ?_)<;>(refine Zm rfl fun w9 M9 N9 DQ back=>?_)<;>refine Zz 13 ZP ?_<;>refine Zj (back _ (nrm ?_)))))))))))<;>refine YC kR (nav ?_)<;>try dsimp only)<;>(
 exact WJ (h12,h13) ⟨rfl,rfl,rfl,rfl,rfl,rfl,rfl,rfl,trivial⟩ ⟨rfl,rfl,rfl,rfl,rfl,trivial⟩)
       · rintro ⟨r12, r13⟩;dsimp only;refine Ze ?_;(refine xL 67 (Zd 3 ZT) ?_<;>(refine yL 68 (Zl 3 Zg) fun v68 h=>?_;cases h)<;>refine xL 69 (ZO LD) ?_<;>refine Zv [(.int .i64 0),(.slice none 0 0),(.slice none 0 0)] 3 14 Z6 fun h14=>?_<;>refine Zz 14 ZP ?_<;>refine Zc ?_)
         refine Zq (WF (l:=14) [pInt a.syms, .own 4 1 0 [], .own 36 1 0 []] rfl rfl (fun i p p' h1 h2=>by
          match i with
          |0=>cases h1;cases h2;exact .inl rfl
          |1=>cases h1;cases h2;exact .inr ⟨rfl,_,_,rfl⟩
          |2=>cases h1;cases h2;exact .inr ⟨rfl,_,_,rfl⟩
          |i+3=>simp at h2)) fun _=>?_
         refine Zq (We (l:=14) (l':=302) (j:=1) rfl rfl rfl rfl) fun i=>?_;obtain ⟨v302,ho302⟩:=i;refine Zq (We (l:=14) (l':=301) (j:=2) rfl rfl rfl rfl) fun i=>?_;obtain ⟨v301,ho301⟩:=i;dsimp only [List.set];(refine Zt ?_<;>(refine Ph (xs:=[_,_]) 70 Zo fun h70 ho70=>?_;refine Zu (En.freeze (l:=70) (t:=70) rfl rfl) fun _=>?_;refine Zu (Wg (t:=70) (p':=Wn (Jr x0P)) rfl rfl) fun _=>?_)<;>refine ZM (kk:=1) 71 Yw fun h71 ho71=>?_<;>refine xL 15 Za ?_<;>refine Zc ?_)
         refine Zq (ZD (l:=71) 303 rfl rfl) fun _=>?_;refine Zq (ZF (l:=303) (p':= .own 36 1 ([x0P]:List PrS).length (([x0P]:List PrS).map fun x=>Wn (Jr x))) rfl rfl) fun _=>?_;(refine Zt ?_<;>refine xL 72 (ZO YW) ?_<;>refine YI 73 ZU fun h73 ho73=>?_<;>refine xL 16 Za ?_<;>refine Zc ?_)
         refine Zq (ZD (l:=73) 306 rfl rfl) fun _=>?_;refine Zq (ZF (l:=306) (p':= .own 93 3 ([x0P]:List PrS).length ((([x0P]:List PrS).map mvB).flatMap cMv)) rfl rfl) fun _=>?_;(refine Zt ?_<;>refine Gw 74 fun h74 ho74=>?_<;>refine xL 17 Za ?_<;>refine Zk ?_)
         (refine xL 75 Zb (xL 76 Zb ?_)<;>refine xL 77 (Yg (i:=0) 303 Z0) ?_<;>(refine yL 78 (Zl 303 Zy) fun v78 h=>?_;cases h)<;>(refine cS 79 (cA call201 (Kv (toI (Jr x0P)) dC dC)) fun v79 h=>?_;cases h)<;>(refine GU 74 Wq ?_;rw [show Jg [] (.string (Lu (toI (Jr x0P)))) (.int .i64 1)=skv (YT PM 1 [x0P]) from rfl])<;>refine Zc ?_)
         refine Zq (ZD (l:=74) 304 rfl rfl) fun _=>?_;(refine Zt ?_<;>refine xL 18 Za ?_<;>refine Zc ?_)
         refine ZE (ι:={q:Nat×Value×Value×Value×Value×List PrS×List (List Nat)//(YP A B).upto x0P q.1=some (q.2.2.2.2.2.1,q.2.2.2.2.2.2)∧q.1≤q.2.2.2.2.2.1.length∧q.2.1.oneCell'=true∧q.2.2.1.oneCell'=true∧q.2.2.2.1.oneCell'=true∧q.2.2.2.2.1.oneCell'=true}) (fun k=>⟨[(2,_,_),(3,_,_),(4,_,_),(6,_,_),(7,_,_),(8,_,_),(12,_,_),(13,_,_),(14,_,_),(17,_,_),(15,k.1.2.2.2.1, .val k.1.2.2.2.1),(16,k.1.2.2.2.2.1, .val k.1.2.2.2.2.1),(18, .int .i64 k.1.1,pInt k.1.1)],[(3,_,_),(4,_,_),(6,_,_),(12,_,_),(13,_,_),(14,h14, .own 188 3 1 [pInt a.syms, .val k.1.2.2.1, .val k.1.2.1]),(301,k.1.2.1, .own 36 1 k.1.2.2.2.2.2.2.length (k.1.2.2.2.2.2.2.map Wn)),(302,k.1.2.2.1, .own 4 1 ((k.1.2.2.2.2.2.1.take k.1.1).map (Y7 A B op)).length (((k.1.2.2.2.2.2.1.take k.1.1).map (Y7 A B op)).map ZN)),(303,k.1.2.2.2.1, .own 36 1 k.1.2.2.2.2.2.1.length (k.1.2.2.2.2.2.1.map fun x=>Wn (Jr x))),(306,k.1.2.2.2.2.1, .own 93 3 k.1.2.2.2.2.2.1.length ((k.1.2.2.2.2.2.1.map mvB).flatMap cMv)),(304,h74, .omap (skv (YT PM 1 k.1.2.2.2.2.2.1)))]⟩) (fun k=>2000-k.1.1) ⟨(0,v301,v302,h71,h73,[x0P],[]),rfl,Xd _,ho301,ho302,ho71,ho73⟩ (fun a w H=>H.weaken ⟨rfl,rfl,rfl,rfl,rfl,rfl,rfl,rfl,rfl,rfl,rfl,rfl,rfl,trivial⟩ ⟨rfl,rfl,rfl,rfl,rfl,rfl,rfl,rfl,rfl,rfl,rfl,trivial⟩) ?_;rintro ⟨⟨i,r1,r2,r3,r6,o,rows⟩,hU,hi,hr1,hr2,hr3,hr6⟩;dsimp only;dsimp only at hU hi hr1 hr2 hr3 hr6;obtain ⟨hOk,hRl,_⟩:=L6 dA dB hAB hU;have hRl:=hRl hi;have hcap:o.length≤2000:=hOk.cap;(have hfl:((o.take i).map (Y7 A B op)).length≤2000:=by rw [Xe,Xn];omega);refine Ze ?_;(refine xL 80 Zb (xL 81 Zb (xL 82 (YH 303 Z0) (xL 83 ZQ ?_)))<;>refine Zc ?_)
         refine cX ?_ ?_<;>intro hb83
         · first | exact bN hb83|(
 obtain ⟨x,hx⟩:=Zw (show i<o.length by omega);have hxp:=hOk.p x (Xc hx);have hx1:x.1.1<A.n.toNat:=hxp.1;have hx2:x.1.2<B.n.toNat:=hxp.2;have p1:((toI (Jr x)).map pInt)[0*1]? =some (pInt (x.1.1:Nat)):=rfl;have p2:((toI (Jr x)).map pInt)[1*1]? =some (pInt (x.1.2:Nat)):=rfl;have hpl:(toI (Jr x)).length=2:=rfl;refine Ze ?_;(refine J0 86 Zo fun h86 ho86=>?_<;>refine xL 19 Za ?_<;>refine Zc ?_)
 refine Zq (ZD (l:=86) 305 rfl rfl) fun _=>?_;refine Zq (ZF (l:=305) (p':= .own 3 1 ([]:List Nat).length ((toI []).map pInt)) rfl rfl) fun _=>?_;(refine Zt ?_<;>refine xL 20 Za ?_<;>refine Zc ?_)
 refine ZE (ι:={q:Nat×Value×Value×Value×List PrS×List Nat//(YP A B).row i x o q.1=some (q.2.2.2.2.1,q.2.2.2.2.2)∧q.1≤A.syms.toNat∧q.2.1.oneCell'=true∧q.2.2.1.oneCell'=true∧q.2.2.2.1.oneCell'=true}) (fun k=>⟨[(2,_,_),(3,_,_),(4,_,_),(6,_,_),(7,_,_),(8,_,_),(12,_,_),(13,_,_),(14,_,_),(17,_,_),(18,_,_),(15,k.1.2.1, .val k.1.2.1),(16,k.1.2.2.1, .val k.1.2.2.1),(19,k.1.2.2.2.1, .val k.1.2.2.2.1),(20, .int .i64 k.1.1,pInt k.1.1)],[(3,_,_),(4,_,_),(6,_,_),(12,_,_),(13,_,_),(14,_,_),(301,_,_),(302,_,_),(303,k.1.2.1, .own 36 1 k.1.2.2.2.2.1.length (k.1.2.2.2.2.1.map fun x=>Wn (Jr x))),(306,k.1.2.2.1, .own 93 3 k.1.2.2.2.2.1.length ((k.1.2.2.2.2.1.map mvB).flatMap cMv)),(304,h74, .omap (skv (YT PM 1 k.1.2.2.2.2.1))),(305,k.1.2.2.2.1, .own 3 1 k.1.2.2.2.2.2.length ((toI k.1.2.2.2.2.2).map pInt))]⟩) (fun k=>A.syms.toNat-k.1.1) ⟨(0,r3,r6,h86,o,[]),rfl,Xd _,hr3,hr6,ho86⟩ (fun a w H=>H.weaken ⟨rfl,rfl,rfl,rfl,rfl,rfl,rfl,rfl,rfl,rfl,rfl,rfl,rfl,rfl,rfl,trivial⟩ ⟨rfl,rfl,rfl,rfl,rfl,rfl,rfl,rfl,rfl,rfl,rfl,rfl,trivial⟩) ?_;rintro ⟨⟨s,r3',r6',hR,o',r⟩,hW,hsm,hr3',hr6',hRo⟩;dsimp only;dsimp only at hW hsm hr3' hr6' hRo;obtain ⟨hMt,hpr,hrl,_⟩:=hOk.toMet.row (fun s hs'=>⟨dA.sl _ _ hx1 hs',dB.sl _ _ hx2 (by have:s<A.syms.toNat:=hs';omega)⟩) (show s≤(YP A B).m from hsm) hW;have hcap':o'.length≤2000:=hMt.cap;have hx':=Kd hpr hx;have hil:=Zh hx';have hrtl:=Y8 r;have q1:=Yb (f:=fun x=>Wn (Jr x)) hx';refine Ze ?_;(refine xL 87 Zb (xL 88 (Zd 3 ZT) ?_)<;>(refine yL 89 (Zl 3 Zg) fun v89 h=>?_;cases h)<;>refine xL 90 ZQ ?_<;>refine Zc ?_)
 refine cX ?_ ?_<;>intro hb90
 · first | exact bN hb90|(
 obtain ⟨y,hy⟩:∃y:PrS,y=(YP A B).step i x s:=⟨_,rfl⟩;(have hyp:S2 A B y:=by rw [hy];exact ⟨dA.sl _ _ hx1 oM,dB.sl _ _ hx2 oM⟩);(have hy11:stepA A x.1.1 s=y.1.1:=by rw [hy];rfl);(have hy12:stepA B x.1.2 s=y.1.2:=by rw [hy];rfl);(have hy2:y.2=(((i:Nat):Int),((s:Nat):Int)):=by rw [hy];rfl);(have hym:mvB y=⟨(i:Nat),0,(s:Nat)⟩:=by unfold mvB;rw [hy2,UT (by dsimp only;omega)]);have e1:=Yb (f:=Wn) (ZaC (A:=A) hx1);have e2:=Yb (f:=Wn) (ZaC (A:=B) hx2);(have e3:((toI (Tg A x.1.1 A.syms.toNat)).map pInt)[s*1]? =some (pInt (y.1.1:Nat)):=by rw [Xp,Xg];unfold toI;rw [Xg,Zd9 oM,hy11];rfl);(have e4:((toI (Tg B x.1.2 B.syms.toNat)).map pInt)[s*1]? =some (pInt (y.1.2:Nat)):=by rw [Xp,Xg];unfold toI;rw [Xg,Zd9 oM,hy12];rfl);(have e5:(toI (Tg A x.1.1 A.syms.toNat)).length=A.syms.toNat:=by rw [Y8,CE]);(have e6:(toI (Tg B x.1.2 B.syms.toNat)).length=B.syms.toNat:=by rw [Y8,CE]);have hid:=Zni dA dB hMt.p hyp;have hlook:=Dd PM o' y;have hbd:=CF dA dB hyp;refine nav ?_;(refine ZZ (fun i=>([]:List Nat).elem i) [12,13,303] kR ?_<;>refine xD 0 93 rfl (Zd 12 Ys) ?_<;>(refine yD 1 94 rfl (Zl 12 Yj) fun v94 h=>?_;cases h)<;>refine xD 2 95 rfl Zb ?_<;>refine xD 3 96 rfl Zb ?_<;>refine xD 4 97 rfl (Yg 303 Z0) ?_<;>(refine yD 5 98 rfl (Zl 303 Zy) fun v98 h=>?_;cases h)<;>refine xD 6 99 rfl (ZH (i:=0) Zr) ?_<;>(refine yD 7 100 rfl (Ya Zg) fun v100 h=>?_;cases h)<;>refine xD 8 101 rfl (ZH Z0) ?_<;>(refine yD 9 102 rfl (Ya Zy) fun v102 h=>?_;cases h)<;>refine xD 10 103 rfl Zb ?_<;>refine xD 11 104 rfl (ZH Zr) ?_<;>(refine yD 12 105 rfl (Ya Zg) fun v105 h=>?_;cases h)<;>refine xD 13 106 rfl (Zd 13 Ys) ?_<;>(refine yD 14 107 rfl (Zl 13 Yj) fun v107 h=>?_;cases h)<;>refine xD 15 108 rfl Zb ?_<;>refine xD 16 109 rfl Zb ?_<;>refine xD 17 110 rfl (Yg 303 Z0) ?_<;>(refine yD 18 111 rfl (Zl 303 Zy) fun v111 h=>?_;cases h)<;>refine xD 19 112 rfl (ZH (i:=1) Zr) ?_<;>(refine yD 20 113 rfl (Ya Zg) fun v113 h=>?_;cases h)<;>refine xD 21 114 rfl (ZH Z0) ?_<;>(refine yD 22 115 rfl (Ya Zy) fun v115 h=>?_;cases h)<;>refine xE 23 116 rfl Zb ?_<;>refine xE 24 117 rfl (ZH Zr) ?_<;>(refine yE 25 118 rfl (Ya Zg) fun v118 h=>?_;cases h)<;>(refine Zp 26 kR ?_)<;>(refine Zm rfl fun w9 M9 N9 DQ back=>?_)<;>(refine Ph (xs:=[_,_]) 119 Zo fun h119 ho119=>?_;refine Zu (En.freeze (l:=119) (t:=119) rfl rfl) fun _=>?_;refine Zu (Wg (t:=119) (p':=Wn (Jr y)) rfl rfl) fun _=>?_)<;>refine Zj (back _ (nrm ?_))<;>refine xE 27 21 rfl Za ?_<;>refine YC kR (nav ?_)<;>try dsimp only)
 (refine Zt ?_<;>refine xL 120 Zb (xL 121 Zb ?_)<;>(refine cS 122 (cA call201 (Kv (toI (Jr y)) (by show 2≤1000000;omega) hbd)) fun v122 h=>?_;cases h)<;>refine xL 123 (P1 304 Wq (hk:=LV _ _) (hu:=hlook)) ?_<;>refine xL 22 Za ?_<;>refine Zk ?_)
 (refine xL 124 Zb (xL 125 Yf ?_)<;>refine Zc ?_)
 refine cX ?_ ?_<;>intro hb125
 · first | exact bN hb125|(
 have hnew:¬posK PM o' (PM y)<o'.length:=fun hh=>by
  unfold T9 at hb125;rw [UU hh] at hb125;omega
 have hnew2:¬posK (YP A B).key o' ((YP A B).key ((YP A B).step i x s))<o'.length:=by
  rw [←hy];show ¬posK Prod.fst o' y.1<o'.length;rw [←hid];exact hnew
 refine Ze ?_;(refine xL 126 Zb (xL 127 (YH 303 Z0) (xL 128 Ww ?_))<;>refine Zc ?_)
 refine cX ?_ ?_<;>intro hb128
 · first|exact bN hb128|(
 refine Ze ?_;(refine xL 129 (KB Hg rfl) ?_<;>refine Zz 6 ZP ?_<;>refine xL 7 Za (xL 8 Za ?_)<;>refine Zc ?_)
 refine YG (Y' (t:=7) rfl) fun _=>?_;refine Gx (k:=3) 6 kR (results148) rfl rfl rfl rfl (Xa rfl) dC rfl (.inr ⟨?_,rfl⟩);have hv:=SG hnew2 (show (YP A B).cap≤o'.length by show 2000≤o'.length;omega);have h1:=Srch.row_fails (Srch.row_out hW hv) (show s+1≤(YP A B).m by show s+1≤A.syms.toNat;omega);exact Srch.all_none (Srch.upto_out hU hx h1) (show i+1≤(YP A B).cap by show i+1≤2000;omega))
 · first |exact bN hb128|(
 refine Ze ?_;(refine xL 130 Zb (xL 131 Zb ?_)<;>refine ZM (kk:=1) 132 Yw fun h132 ho132=>?_<;>(refine ZY 303 132 133 Yw fun h133 ho133=>?_;refine Zu (ZD (l:=133) 303 rfl rfl) fun _=>?_;refine Zu (ZF (l:=303) rfl (Zli _ o' y)) fun _=>?_)<;>refine xL 15 Za ?_<;>refine Zk ?_)
 (refine xL 134 Zb (xL 135 Zb (xL 136 Zb (xL 137 (ZO YW) ?_)))<;>refine YI 138 ZU fun h138 ho138=>?_<;>(refine ZY 306 138 139 ZU fun h139 ho139=>?_;refine Zu (ZD (l:=139) 306 rfl rfl) fun _=>?_;refine Zu (ZF (l:=306) (p':= .own 93 3 (o'++[y]).length (((o'++[y]).map mvB).flatMap cMv)) rfl (by rw [←Zlj,hym];rfl)) fun _=>?_)<;>refine xL 16 Za ?_<;>refine Zk ?_)
 (refine xL 140 Zb (xL 141 (YH 303 Z0) (xL 22 Za ?_))<;>refine Zk ?_)
 (refine xL 142 Zb (xL 143 Zb ?_)<;>(refine cS 144 (cA call201 (Kv (toI (Jr y)) (by show 2≤1000000;omega) hbd)) fun v144 h=>?_;cases h)<;>refine xL 145 Zb ?_<;>(refine GU 304 Wq ?_;rw [show (((o'++[y]).length:Nat):Int)=((o'.length+1:Nat):Int) by rw [Xb];rfl,show (Value.string (Lu (toI (Jr y))))=Value.string (PM y) from rfl,E6 hnew])<;>refine Zk ?_)
 (refine xL 146 Zb (xL 147 Zb (xL 148 KM ?_))<;>refine ZM (kk:=1) 149 Zo fun h149 ho149=>?_<;>(refine ZY 305 149 150 Zo fun h150 ho150=>?_;refine Zu (ZD (l:=150) 305 rfl rfl) fun _=>?_;first|refine Zu (ZF (l:=305) rfl (L' _ r _ o'.length (show ((o'.length+1:Nat):Int)-1=(o'.length:Nat) by omega))) fun _=>?_|refine Zu (ZF (l:=305) rfl (L' _ r _ (posK Prod.fst o' y.1) hnum)) fun _=>?_)<;>refine xL 19 Za ?_<;>refine Zk ?_)
 (refine xL 91 Zb (xL 92 ZK (xL 20 Za ?_))<;>refine Zc ?_)
 first
  | (exact Zn (
      ⟨(s+1,h133,h139,h150,o'++[y],r++[o'.length]),(by dsimp only;rw [hy];exact Srch.row_snoc hW (Wc hnew2 (show o'.length<2000 by omega))),(by dsimp only;omega),ho133,ho139,ho150⟩
      ) (by dsimp only;omega) ⟨rfl,rfl,rfl,rfl,rfl,rfl,rfl,rfl,rfl,rfl,rfl,rfl,rfl,rfl,rfl,trivial⟩ ⟨rfl,rfl,rfl,rfl,rfl,rfl,rfl,rfl,rfl,rfl,rfl,rfl,trivial⟩)
  | (exact Zn (
      ⟨(s+1,r3',r6',h150,o',r++[posK Prod.fst o' y.1]),(by dsimp only;rw [hy];exact Srch.row_snoc hW (Wb hold2)),(by dsimp only;omega),hr3',hr6',ho150⟩
      ) (by dsimp only;omega) ⟨rfl,rfl,rfl,rfl,rfl,rfl,rfl,rfl,rfl,rfl,rfl,rfl,rfl,rfl,rfl,trivial⟩ ⟨rfl,rfl,rfl,rfl,rfl,rfl,rfl,rfl,rfl,rfl,rfl,rfl,trivial⟩)))
 · first |exact bN hb125|(
 have hold:posK PM o' (PM y)<o'.length:=by
  rcases XD (posK PM o' (PM y)) o'.length with hh|hh
  · exact hh
  · unfold T9 at hb125;rw [UT oM] at hb125;exact UV rfl hb125
 have hold2:posK (YP A B).key o' ((YP A B).key ((YP A B).step i x s))<o'.length:=by
  rw [←hy];show posK Prod.fst o' y.1<o'.length;rw [←hid];exact hold
 have hnum:((T9 PM o' y:Nat):Int)-1=(posK Prod.fst o' y.1:Nat):=by
  unfold T9;rw [UU hold,hid];omega
 refine Ze ?_;(refine xL 146 Zb (xL 147 Zb (xL 148 KM ?_))<;>refine ZM (kk:=1) 149 Zo fun h149 ho149=>?_<;>(refine ZY 305 149 150 Zo fun h150 ho150=>?_;refine Zu (ZD (l:=150) 305 rfl rfl) fun _=>?_;first|refine Zu (ZF (l:=305) rfl (L' _ r _ o'.length (show ((o'.length+1:Nat):Int)-1=(o'.length:Nat) by omega))) fun _=>?_|refine Zu (ZF (l:=305) rfl (L' _ r _ (posK Prod.fst o' y.1) hnum)) fun _=>?_)<;>refine xL 19 Za ?_<;>refine Zk ?_)
 (refine xL 91 Zb (xL 92 ZK (xL 20 Za ?_))<;>refine Zc ?_)
 first
  | (exact Zn (
      ⟨(s+1,h133,h139,h150,o'++[y],r++[o'.length]),(by dsimp only;rw [hy];exact Srch.row_snoc hW (Wc hnew2 (show o'.length<2000 by omega))),(by dsimp only;omega),ho133,ho139,ho150⟩
      ) (by dsimp only;omega) ⟨rfl,rfl,rfl,rfl,rfl,rfl,rfl,rfl,rfl,rfl,rfl,rfl,rfl,rfl,rfl,trivial⟩ ⟨rfl,rfl,rfl,rfl,rfl,rfl,rfl,rfl,rfl,rfl,rfl,rfl,trivial⟩)
  | (exact Zn (
      ⟨(s+1,r3',r6',h150,o',r++[posK Prod.fst o' y.1]),(by dsimp only;rw [hy];exact Srch.row_snoc hW (Wb hold2)),(by dsimp only;omega),hr3',hr6',ho150⟩
      ) (by dsimp only;omega) ⟨rfl,rfl,rfl,rfl,rfl,rfl,rfl,rfl,rfl,rfl,rfl,rfl,rfl,rfl,rfl,trivial⟩ ⟨rfl,rfl,rfl,rfl,rfl,rfl,rfl,rfl,rfl,rfl,rfl,rfl,trivial⟩)))
 · first|exact bN hb90|(
 have hse:s=A.syms.toNat:=oM;subst hse;have hU2:=Srch.upto_snoc hU hx hW;have htk:o'.take (i+1)=(o.take i)++[x]:=by
  rw [ZR hx'];obtain ⟨e,rfl⟩:=hpr;rw [V4 hi]
 have f1:=Yb (f:=ZN) (ZaD (A:=A) hx1);have f2:=Yb (f:=ZN) (ZaD (A:=B) hx2);refine nav ?_;refine Zq (En.freeze (l:=305) (t:=19) rfl rfl) fun _=>?_;rw [ZV _ _ _ (by rw [Y8])];(refine Zt ?_<;>refine xL 151 (Zd 14 Ys) ?_<;>(refine yL 152 (Zl 14 Yj) fun v152 h=>?_;cases h)<;>refine xL 153 Zb ?_<;>refine ZM (kk:=1) 154 Yw fun h154 ho154=>?_<;>(refine ZY 301 154 155 Yw fun h155 ho155=>?_;refine Zu (ZD (l:=155) 301 rfl rfl) fun _=>?_;refine Zu (ZF (l:=301) rfl (Lf _ rows r)) fun _=>?_)<;>refine xL 156 (Zd 14 Ys) ?_<;>refine YQ 14 Yj Gk ?_<;>refine Zc ?_)
 (refine ZZ (fun i=>([27]:List Nat).elem i) [12,13,14,303] kR ?_<;>refine xD 0 157 rfl (Zd 14 YM) ?_<;>(refine yD 1 158 rfl (Zl 14 Ym) fun v158 h=>?_;cases h)<;>refine xD 2 159 rfl Zb ?_<;>refine xD 3 160 rfl (Zd 12 YM) ?_<;>(refine yD 4 161 rfl (Zl 12 Ym) fun v161 h=>?_;cases h)<;>refine xD 5 162 rfl Zb ?_<;>refine xD 6 163 rfl Zb ?_<;>refine xD 7 164 rfl (Yg 303 Z0) ?_<;>(refine yD 8 165 rfl (Zl 303 Zy) fun v165 h=>?_;cases h)<;>refine xD 9 166 rfl (ZH (i:=0) Zr) ?_<;>(refine yD 10 167 rfl (Ya Zg) fun v167 h=>?_;cases h)<;>refine xD 11 168 rfl (ZH Yo) ?_<;>(refine yD 12 169 rfl (Ya Wa) fun v169 h=>?_;cases h)<;>refine xD 13 170 rfl (Zd 13 YM) ?_<;>(refine yD 14 171 rfl (Zl 13 Ym) fun v171 h=>?_;cases h)<;>refine xD 15 172 rfl Zb ?_<;>refine xE 16 173 rfl Zb ?_<;>refine xE 17 174 rfl (Yg 303 Z0) ?_<;>(refine yE 18 175 rfl (Zl 303 Zy) fun v175 h=>?_;cases h)<;>refine xE 19 176 rfl (ZH (i:=1) Zr) ?_<;>(refine yE 20 177 rfl (Ya Zg) fun v177 h=>?_;cases h)<;>refine xE 21 178 rfl (ZH Yo) ?_<;>(refine yE 22 179 rfl (Ya Wa) fun v179 h=>?_;cases h)<;>(refine Zp 23 kR ?_)<;>(refine YA (d:=180) rfl (cA call202 (ZfZ op (JS A (x.1.1:Nat)) (JS B (x.1.2:Nat)))) fun v180 h=>?_;cases h)<;>(refine Zp 24 kR ?_)<;>(refine Zm rfl fun w9 M9 N9 DQ back=>?_)<;>refine ZM (kk:=1) 181 YZ fun h181 ho181=>?_<;>refine Zj (back _ (nrm ?_))<;>(refine Zp 25 kR ?_)<;>(refine Zm rfl fun w9 M9 N9 DQ back=>?_)<;>refine ZY 302 181 182 YZ fun h182 ho182=>?_<;>refine Zj (back _ (nrm ?_))<;>refine xE 26 183 rfl (Zd 14 YM) ?_<;>(refine Zp 27 kR ?_)<;>(refine Kb rfl rfl kR fun DQ back=>?_)<;>refine YQ 14 Ym Gl ?_<;>refine Zj (back _ (nav ?_))<;>try dsimp only)
 refine Zq (ZD (l:=182) 302 rfl rfl) fun _=>?_;refine Zq (ZF (l:=302) rfl (Gm _ ((o.take i).map (Y7 A B op)) (Y7 A B op x))) fun _=>?_;rw [show ((o.take i).map (Y7 A B op))++[Y7 A B op x]=(o'.take (i+1)).map (Y7 A B op) by rw [htk,Xs];rfl];(refine Zt ?_<;>refine xL 84 Zb (xL 85 ZK (xL 18 Za ?_))<;>refine Zc ?_)
 refine Zn (
  ⟨(i+1,h155,h182,r3',r6',o',rows++[r]),hU2,(by dsimp only;omega),ho155,ho182,hr3',hr6'⟩
  ) (by dsimp only;omega) ⟨rfl,rfl,rfl,rfl,rfl,rfl,rfl,rfl,rfl,rfl,rfl,rfl,rfl,trivial⟩ ⟨rfl,rfl,rfl,rfl,rfl,rfl,rfl,rfl,rfl,rfl,rfl,trivial⟩))
         · first|exact bN hb83|(
 have hio:i=o.length:=oM;subst hio;refine nav ?_;refine Zq (Z7 (l:=14) (l':=302) (j:=1) rfl rfl rfl rfl) fun _=>?_;refine Zq (Z7 (l:=14) (l':=301) (j:=2) rfl rfl rfl rfl) fun _=>?_;rw [JN _ _ _ rfl,Kz _ _ _ rfl];refine Zq (En.freeze (l:=306) (t:=16) rfl rfl) fun _=>?_;rw [show share (PV.own 93 3 o.length ((o.map mvB).flatMap cMv))=pMvs (o.map mvB) by rw [←W7 _ _ _ rfl,Xe]];(refine Zt ?_<;>(refine yL 184 (Zs 14 ZP) fun v184 h=>?_;cases h)<;>refine xL 185 Zb ?_<;>refine Zz 6 ZP ?_<;>refine xL 7 Za (xL 8 Za ?_)<;>refine Zc ?_)
 refine Gx (k:=3) 6 kR (results148) rfl rfl rfl rfl (Xa rfl) dC rfl (.inl ⟨(o,rows),Srch.all_some hU (Xh _) (show o.length≤(YP A B).cap from hcap),?_⟩);rw [VI,←hsN];rfl))))
theorem Zf0 (a b:Aut) (op:Int) (hma:a.moves.length≤1000000) (hmb:b.moves.length≤1000000):AF prog 148 [ZJ a,ZJ b,pInt op] (· =ZoH a b op):=by
 unfold ZoH Pa
 cases ha:Z1 a with
 | false=>
   rw [ZbI ha,UU dC]
   cases hb:Z1 b with
   |false=>exact Zeb a b op hma hmb ha hb trivial trivial
   |true=>exact Zec a b op hma hmb ha hb trivial trivial
 | true =>
   cases hb:Z1 b with
   |false=>rw [ZbJ hb,UU dC];exact Zed a b op hma hmb ha hb trivial trivial
   | true =>
     by_cases hs:a.syms=b.syms
     · rw [ZfS ha hb hs,UT dC];by_cases ho:op<1∨4<op
       · rw [UU ho];exact Zef a b op hma hmb ha hb hs ho
       · rw [UT ho];have hA:=G8 a hma;have hB:=G8 b hmb;unfold Ji at hA hB;rw [ha,UU rfl] at hA;rw [hb,UU rfl] at hB;unfold Jf
         cases ea:WV a with
         | error e=>
           obtain rfl:=Re ea;rw [ea] at hA;exact Zeg a b op 13 hma hmb ha hb hs ho dC hA
         | ok A =>
           rw [ea] at hA
           cases eb:WV b with
           | error e=>
             obtain rfl:=Re eb;rw [eb] at hB;exact Zeh a b A op 13 hma hmb ha hb hs ho dC hA hB
           | ok B=>
             rw [eb] at hB;obtain ⟨dA,sA⟩:=K3 (Kp ha) ea;obtain ⟨dB,sB⟩:=K3 (Kp hb) eb;have h:=ζa a b A B op hma hmb ha hb hs ho hA hB dA dB sA sB;dsimp only
             cases eq:prodQ A B with
             | some q=>
               refine h.mono fun p hp=>?_;rcases hp with ⟨q',h4,h5⟩|⟨h4,_⟩
               · rw [eq] at h4;cases h4;exact h5
               · rw [eq] at h4;cases h4
             | none=>
               refine h.mono fun p hp=>?_;rcases hp with ⟨q',h4,h5⟩|⟨_,h5⟩
               · rw [eq] at h4;cases h4
               · exact h5
     · rw [ZfR ha hb hs,UU dC];exact Zee a b op hma hmb ha hb hs trivial
theorem Zf1 {a b:Aut} {op e:Int} (h:Pa a b op= .error e):¬e=0:=by
 unfold Pa at h
 split at h
 · cases h;assumption
 · split at h
   · cases h;decide
   · rw [ZaE h];decide
theorem Ziy {a b A B:Aut} {op:Int} {q:List PrS×List (List Nat)} (h:Pa a b op= .ok (A,B,q)):TOk (JM A B op q)∧Wt a b=0:=by
 unfold Pa at h
 split at h
 · cases h
 · rename_i h0;have h0:Wt a b=0:=Decidable.not_not.1 h0;split at h
   · cases h
   · exact ⟨Zlh op h0 h,h0⟩
theorem Zlk {l:List Mv} {k:Nat} {x:Mv} (h:l[k]? =some x):(l.flatMap cMv)[k*3+0]? =some (pInt x.src)∧(l.flatMap cMv)[k*3+1]? =some (pInt x.dst)∧(l.flatMap cMv)[k*3+2]? =some (pInt x.sym):=by
 have e:=Yt Z5 l k x h
 have key:∀i,i<3→(l.flatMap cMv)[k*3+i]? =(cMv x)[i]? :=fun i hi=>by
  rw [←e,XZ hi,Vm]
 exact ⟨key 0 oM,key 1 oM,key 2 oM⟩
theorem Zei (a b:Aut) (hla:a.moves.length≤1000000) (hlb:b.moves.length≤1000000) (ha:Z1 a=false) (hb:Z1 b=false) (hs:True):AF prog 196 [ZJ a,ZJ b] (· =pInt 1):=by
 have hva:=Yc a hla
 have hvb:=Yc b hlb
 rw [ha] at hva
 rw [hb] at hvb
 refine AF.of_body 18 func196 rfl ntmps196 (Xa rfl) ?_
 intro w0 M0 vs hl hv
 obtain ⟨v0,v1,rfl⟩:=YX hl
 clear hl hv
 refine Ze ?_
 (refine ZB 2 5 fun h2=>?_<;>refine ZB 3 5 fun h3=>?_<;>refine xL 4 Za ?_<;>refine Zk ?_)
 ((refine yL 5 (Zs 2 Zf) fun v5 h=>?_;cases h)<;>(refine cS 6 (cA call192 (hva)) fun v6 h=>?_;cases h)<;>refine xL 7 Z' (xL 8 Zb ?_)<;>refine kL 9 ?_<;>refine kL 10 ?_<;>refine kL 11 ?_<;>refine xL 12 ZG ?_<;>refine Zc ?_)<;>(
 refine cX ?_ ?_<;>intro hb12
 · first|exact bN hb12|(
 refine Ze ?_;(refine xL 4 Za ?_<;>refine Zc ?_)
 exact ZA (results196) rfl rfl)
 · first
   |exact bN hb12
   |skip)
theorem Zej (a b:Aut) (hla:a.moves.length≤1000000) (hlb:b.moves.length≤1000000) (ha:Z1 a=false) (hb:Z1 b=true) (hs:True):AF prog 196 [ZJ a,ZJ b] (· =pInt 1):=by
 have hva:=Yc a hla
 have hvb:=Yc b hlb
 rw [ha] at hva
 rw [hb] at hvb
 refine AF.of_body 18 func196 rfl ntmps196 (Xa rfl) ?_
 intro w0 M0 vs hl hv
 obtain ⟨v0,v1,rfl⟩:=YX hl
 clear hl hv
 refine Ze ?_
 (refine ZB 2 5 fun h2=>?_<;>refine ZB 3 5 fun h3=>?_<;>refine xL 4 Za ?_<;>refine Zk ?_)
 ((refine yL 5 (Zs 2 Zf) fun v5 h=>?_;cases h)<;>(refine cS 6 (cA call192 (hva)) fun v6 h=>?_;cases h)<;>refine xL 7 Z' (xL 8 Zb ?_)<;>refine kL 9 ?_<;>refine kL 10 ?_<;>refine kL 11 ?_<;>refine xL 12 ZG ?_<;>refine Zc ?_)<;>(
 refine cX ?_ ?_<;>intro hb12
 · first|exact bN hb12|(
 refine Ze ?_;(refine xL 4 Za ?_<;>refine Zc ?_)
 exact ZA (results196) rfl rfl)
 · first
   |exact bN hb12
   |skip)
theorem Zek (a b:Aut) (hla:a.moves.length≤1000000) (hlb:b.moves.length≤1000000) (ha:Z1 a=true) (hb:Z1 b=false) (hs:True):AF prog 196 [ZJ a,ZJ b] (· =pInt 1):=by
 have hva:=Yc a hla
 have hvb:=Yc b hlb
 rw [ha] at hva
 rw [hb] at hvb
 refine AF.of_body 18 func196 rfl ntmps196 (Xa rfl) ?_
 intro w0 M0 vs hl hv
 obtain ⟨v0,v1,rfl⟩:=YX hl
 clear hl hv
 refine Ze ?_
 (refine ZB 2 5 fun h2=>?_<;>refine ZB 3 5 fun h3=>?_<;>refine xL 4 Za ?_<;>refine Zk ?_)
 ((refine yL 5 (Zs 2 Zf) fun v5 h=>?_;cases h)<;>(refine cS 6 (cA call192 (hva)) fun v6 h=>?_;cases h)<;>refine xL 7 Z' (xL 8 Zb ?_)<;>(refine yL 9 (Zs 3 Zf) fun v9 h=>?_;cases h)<;>(refine cS 10 (cA call192 (hvb)) fun v10 h=>?_;cases h)<;>refine xL 11 Z' (xL 12 ZG ?_)<;>refine Zc ?_)<;>(
 refine cX ?_ ?_<;>intro hb12
 · first|exact bN hb12|(
 refine Ze ?_;(refine xL 4 Za ?_<;>refine Zc ?_)
 exact ZA (results196) rfl rfl)
 · first
   |exact bN hb12
   |skip)
theorem Zel (a b:Aut) (hla:a.moves.length≤1000000) (hlb:b.moves.length≤1000000) (ha:Z1 a=true) (hb:Z1 b=true) (hs:¬a.syms=b.syms):AF prog 196 [ZJ a,ZJ b] (· =pInt 29):=by
 have hva:=Yc a hla
 have hvb:=Yc b hlb
 rw [ha] at hva
 rw [hb] at hvb
 refine AF.of_body 18 func196 rfl ntmps196 (Xa rfl) ?_
 intro w0 M0 vs hl hv
 obtain ⟨v0,v1,rfl⟩:=YX hl
 clear hl hv
 refine Ze ?_
 (refine ZB 2 5 fun h2=>?_<;>refine ZB 3 5 fun h3=>?_<;>refine xL 4 Za ?_<;>refine Zk ?_)
 ((refine yL 5 (Zs 2 Zf) fun v5 h=>?_;cases h)<;>(refine cS 6 (cA call192 (hva)) fun v6 h=>?_;cases h)<;>refine xL 7 Z' (xL 8 Zb ?_)<;>(refine yL 9 (Zs 3 Zf) fun v9 h=>?_;cases h)<;>(refine cS 10 (cA call192 (hvb)) fun v10 h=>?_;cases h)<;>refine xL 11 Z' (xL 12 ZG ?_)<;>refine Zc ?_)<;>(
 refine cX ?_ ?_<;>intro hb12
 · first|exact bN hb12|(
 refine Ze ?_;(refine xL 4 Za ?_<;>refine Zc ?_)
 exact ZA (results196) rfl rfl)
 · first|exact bN hb12|(
 refine Ze ?_;(refine xL 13 (Zd 2 ZT) ?_<;>(refine yL 14 (Zl 2 Zg) fun v14 h=>?_;cases h)<;>refine xL 15 (Zd 3 ZT) ?_<;>(refine yL 16 (Zl 3 Zg) fun v16 h=>?_;cases h)<;>refine xL 17 Yn ?_<;>refine Zc ?_)
 refine cX ?_ ?_<;>intro hb17
 · first|exact bN hb17|(
 refine Ze ?_;(refine xL 4 Za ?_<;>refine Zc ?_)
 first|exact ZA (results196) rfl rfl|exact UV hs (by simpa using hb17))
 · first|exact bN hb17|(
 refine Ze ?_;(refine xL 4 Za ?_<;>refine Zc ?_)
 first|exact ZA (results196) rfl rfl|exact UV (by simpa using hb17) hs)))
theorem Zem (a b:Aut) (hla:a.moves.length≤1000000) (hlb:b.moves.length≤1000000) (ha:Z1 a=true) (hb:Z1 b=true) (hs:a.syms=b.syms):AF prog 196 [ZJ a,ZJ b] (· =pInt 0):=by
 have hva:=Yc a hla
 have hvb:=Yc b hlb
 rw [ha] at hva
 rw [hb] at hvb
 refine AF.of_body 18 func196 rfl ntmps196 (Xa rfl) ?_
 intro w0 M0 vs hl hv
 obtain ⟨v0,v1,rfl⟩:=YX hl
 clear hl hv
 refine Ze ?_
 (refine ZB 2 5 fun h2=>?_<;>refine ZB 3 5 fun h3=>?_<;>refine xL 4 Za ?_<;>refine Zk ?_)
 ((refine yL 5 (Zs 2 Zf) fun v5 h=>?_;cases h)<;>(refine cS 6 (cA call192 (hva)) fun v6 h=>?_;cases h)<;>refine xL 7 Z' (xL 8 Zb ?_)<;>(refine yL 9 (Zs 3 Zf) fun v9 h=>?_;cases h)<;>(refine cS 10 (cA call192 (hvb)) fun v10 h=>?_;cases h)<;>refine xL 11 Z' (xL 12 ZG ?_)<;>refine Zc ?_)<;>(
 refine cX ?_ ?_<;>intro hb12
 · first|exact bN hb12|(
 refine Ze ?_;(refine xL 4 Za ?_<;>refine Zc ?_)
 exact ZA (results196) rfl rfl)
 · first|exact bN hb12|(
 refine Ze ?_;(refine xL 13 (Zd 2 ZT) ?_<;>(refine yL 14 (Zl 2 Zg) fun v14 h=>?_;cases h)<;>refine xL 15 (Zd 3 ZT) ?_<;>(refine yL 16 (Zl 3 Zg) fun v16 h=>?_;cases h)<;>refine xL 17 Yn ?_<;>refine Zc ?_)
 refine cX ?_ ?_<;>intro hb17
 · first|exact bN hb17|(
 refine Ze ?_;(refine xL 4 Za ?_<;>refine Zc ?_)
 first|exact ZA (results196) rfl rfl|exact UV hs (by simpa using hb17))
 · first|exact bN hb17|(
 refine Ze ?_;(refine xL 4 Za ?_<;>refine Zc ?_)
 first|exact ZA (results196) rfl rfl|exact UV (by simpa using hb17) hs)))
theorem Gs (a b:Aut) (hla:a.moves.length≤1000000) (hlb:b.moves.length≤1000000):AF prog 196 [ZJ a,ZJ b] (· =pInt (Wt a b)):=by
 cases ha:Z1 a
 · rw [ZbI ha]
   cases hb:Z1 b
   · exact Zei a b hla hlb ha hb trivial
   · exact Zej a b hla hlb ha hb trivial
 · cases hb:Z1 b
   · rw [ZbJ hb];exact Zek a b hla hlb ha hb trivial
   · by_cases hs:a.syms=b.syms
     · rw [ZfS ha hb hs];exact Zem a b hla hlb ha hb hs
     · rw [ZfR ha hb hs];exact Zel a b hla hlb ha hb hs
theorem Sf (l:List Int) (n:Int) (hl:l.length≤1000000) (hn:0≤n∧n≤1000000) (hb:∀x∈l,0≤x∧x≤1000000):AF prog 197 [pInts l,pInt n] (· = .own 3 1 (Y5 n l).length ((Y5 n l).map pInt)):=by
 refine AF.of_body 24 func197 rfl ntmps197 (Xa rfl) ?_
 intro w0 M0 vs hl hv
 obtain ⟨v0,v1,rfl⟩:=YX hl
 obtain rfl:=hv 1 _ _ rfl rfl
 clear hl hv
 refine Ze ?_
 (refine xL 4 Za ?_<;>refine Zk ?_)
 (refine J0 7 Zo fun h7 ho7=>?_<;>refine xL 5 Za ?_<;>refine Zc ?_)
 refine Zq (ZD (l:=7) 200 rfl rfl) fun _=>?_
 (refine Zt ?_<;>refine xL 6 Za ?_<;>refine Zc ?_)
 refine ZE (ι:={q:Nat×Value//q.1≤l.length∧q.2.oneCell'=true}) (fun k=>⟨[(0,_,_),(1,_,_),(5,k.1.2, .val k.1.2),(6, .int .i64 k.1.1,pInt k.1.1)],[(200,k.1.2, .own 3 1 (Y5 n (l.take k.1.1)).length ((Y5 n (l.take k.1.1)).map pInt))]⟩) (fun k=>l.length-k.1.1) ⟨(0,h7),Xd _,ho7⟩ (fun a w H=>H.weaken ⟨rfl,rfl,rfl,rfl,trivial⟩ ⟨rfl,trivial⟩) ?_
 rintro ⟨⟨k,hO⟩,hk,hOo⟩
 dsimp only
 dsimp only at hk hOo
 have hal:(Y5 n (l.take k)).length≤1000000:=by rw [K4,Xn];omega
 refine Ze ?_
 (refine xL 8 Zb (xL 9 Zb (xL 10 (ZW Zr) (xL 11 ZQ ?_)))<;>refine Zc ?_)
 refine cX ?_ ?_<;>intro hb11
 · first|exact bN hb11|(
 obtain ⟨x,hx⟩:=Zw (show k<l.length by omega);have e1:=Yb (f:=pInt) hx;have hxb:=hb x (Xc hx);refine Ze ?_;(refine xL 14 Zb (xL 15 Zb (xL 16 Zb (xL 17 (ZH Zr) ?_)))<;>(refine yL 18 (Ya Zg) fun v18 h=>?_;cases h)<;>refine xL 19 Zb (xL 20 ZK ?_)<;>refine ZM (kk:=1) 21 Zo fun h21 ho21=>?_<;>(refine ZY 200 21 22 Zo fun h22 ho22=>?_;refine Zu (ZD (l:=22) 200 rfl rfl) fun _=>?_;refine Zu (ZF (l:=200) rfl ((K5 _ (Y5 n (l.take k)) (x+n)).trans (by rw [←ζT n hx]))) fun _=>?_)<;>refine xL 5 Za ?_<;>refine Zk ?_)
 (refine xL 12 Zb (xL 13 ZK (xL 6 Za ?_))<;>refine Zc ?_)
 refine Zn (
  ⟨(k+1,h22),Zh hx,ho22⟩
  ) (by dsimp only;omega) ⟨rfl,rfl,rfl,rfl,trivial⟩ ⟨rfl,trivial⟩)
 · first|exact bN hb11|(
 rw [Xj (show l.length≤k by omega)];refine Ze ?_;(refine xL 23 Zb (xL 4 Za ?_)<;>refine Zc ?_)
 exact Kk 200 (results197) rfl rfl rfl)
theorem CG (b:Aut) (n:Int) (hb:AOk b) (hn:0≤n∧n≤1000000):AF prog 198 [pMvs b.moves,pInt n] (· = .own 93 3 (KS n b.moves).length ((KS n b.moves).flatMap cMv)):=by
 have hn1:=hb.n1
 have hbl:=hb.ml
 refine AF.of_body 38 func198 rfl ntmps198 (Xa rfl) ?_
 intro w0 M0 vs hl hv
 obtain ⟨v0,v1,rfl⟩:=YX hl
 obtain rfl:=hv 1 _ _ rfl rfl
 clear hl hv
 refine Ze ?_
 (refine xL 4 Za ?_<;>refine Zk ?_)
 (refine J0 7 ZU fun h7 ho7=>?_<;>refine xL 5 Za ?_<;>refine Zc ?_)
 refine Zq (ZD (l:=7) 200 rfl rfl) fun _=>?_
 (refine Zt ?_<;>refine xL 6 Za ?_<;>refine Zc ?_)
 refine ZE (ι:={q:Nat×Value//q.1≤b.moves.length∧q.2.oneCell'=true}) (fun k=>⟨[(0,_,_),(1,_,_),(5,k.1.2, .val k.1.2),(6, .int .i64 k.1.1,pInt k.1.1)],[(200,k.1.2, .own 93 3 (KS n (b.moves.take k.1.1)).length ((KS n (b.moves.take k.1.1)).flatMap cMv))]⟩) (fun k=>b.moves.length-k.1.1) ⟨(0,h7),Xd _,ho7⟩ (fun a w H=>H.weaken ⟨rfl,rfl,rfl,rfl,trivial⟩ ⟨rfl,trivial⟩) ?_
 rintro ⟨⟨k,hO⟩,hk,hOo⟩
 dsimp only
 dsimp only at hk hOo
 have hal:(KS n (b.moves.take k)).length≤1000000:=by rw [Lz,Xn];omega
 refine Ze ?_
 (refine xL 8 Zb (xL 9 Zb (xL 10 (ZW ZL) (xL 11 ZQ ?_)))<;>refine Zc ?_)
 refine cX ?_ ?_<;>intro hb11
 · first|exact bN hb11|(
 obtain ⟨x,hx⟩:=Zw (show k<b.moves.length by omega);obtain ⟨e0,e1,e2⟩:=Zlk hx;have hxb:=hb.mv x (Xc hx);refine nav ?_;(refine ZZ (fun i=>([]:List Nat).elem i) [] kR ?_<;>refine xD 0 14 rfl Zb ?_<;>refine xD 1 15 rfl Zb ?_<;>refine xD 2 16 rfl Zb ?_<;>refine xD 3 17 rfl (ZH ZL) ?_<;>refine xD 4 18 rfl (Jk Yd) ?_<;>(refine yD 5 19 rfl (Ya Zg) fun v19 h=>?_;cases h)<;>refine xD 6 20 rfl Zb ?_<;>refine xD 7 21 rfl ZK ?_<;>refine xD 8 22 rfl Zb ?_<;>refine xD 9 23 rfl Zb ?_<;>refine xD 10 24 rfl (ZH ZL) ?_<;>refine xD 11 25 rfl (Jk Yi) ?_<;>(refine yD 12 26 rfl (Ya Zg) fun v26 h=>?_;cases h)<;>refine xD 13 27 rfl Zb ?_<;>refine xD 14 28 rfl ZK ?_<;>refine xD 15 29 rfl Zb ?_<;>refine xE 16 30 rfl Zb ?_<;>refine xE 17 31 rfl (ZH ZL) ?_<;>refine xE 18 32 rfl (Jk Yp) ?_<;>(refine yE 19 33 rfl (Ya Zg) fun v33 h=>?_;cases h)<;>refine xE 20 34 rfl (ZO YW) ?_<;>(refine Zp 21 kR ?_)<;>(refine Zm rfl fun w9 M9 N9 DQ back=>?_)<;>refine YI 35 ZU fun h35 ho35=>?_<;>refine Zj (back _ (nrm ?_))<;>(refine Zp 22 kR ?_)<;>(refine Zm rfl fun w9 M9 N9 DQ back=>?_)<;>(refine ZY 200 35 36 ZU fun h36 ho36=>?_;refine Zu (ZD (l:=36) 200 rfl rfl) fun _=>?_;refine Zu (ZF (l:=200) rfl ((WZ _ (KS n (b.moves.take k)) ⟨x.src+n,x.dst+n,x.sym⟩).trans (by rw [←ζU n hx]))) fun _=>?_)<;>refine Zj (back _ (nrm ?_))<;>refine xE 23 5 rfl Za ?_<;>refine YC kR (nav ?_)<;>try dsimp only)
 (refine Zt ?_<;>refine xL 12 Zb (xL 13 ZK (xL 6 Za ?_))<;>refine Zc ?_)
 refine Zn (
  ⟨(k+1,h36),Zh hx,ho36⟩
  ) (by dsimp only;omega) ⟨rfl,rfl,rfl,rfl,trivial⟩ ⟨rfl,trivial⟩)
 · first|exact bN hb11|(
 rw [Xj (show b.moves.length≤k by omega)];refine Ze ?_;(refine xL 37 Zb (xL 4 Za ?_)<;>refine Zc ?_)
 exact Kk 200 (results198) rfl rfl rfl)
theorem GR (l : List Mv) (m:Mv) (hl:l.length≤1000000) (ha:AscM l):AF prog 133 [pMvs l, .agg (cMv m)] (· =pMvs (R2 m l)):=by
 refine AF.of_body 47 func133 rfl ntmps133 (Xa rfl) ?_
 intro w0 M0 vs hl hv
 obtain ⟨v0,v1,rfl⟩:=YX hl
 clear hl hv
 refine Wm 0 rfl fun hlen=>?_
 refine Ze ?_
 (refine ZB 3 3 fun h3=>?_<;>refine xL 4 Za ?_<;>refine Zk ?_)
 (refine xL 7 Zb (xL 8 (ZW ZL) (xL 5 Za ?_))<;>refine Zc ?_)
 refine ZE (ι:={i:Nat//i≤l.length∧∀(j:Nat) (x:Mv),i≤j→l[j]? =some x→Kj m x=true}) (fun k=>⟨[(0,_,_),(3,_,_),(5, .int .i64 k.1,pInt k.1)],[(3,_,_)]⟩) (fun k=>k.1) ⟨l.length,Xh _,fun j x h1 h2=>by have:=Zh h2;omega⟩ (fun a w H=>H.weaken ⟨rfl,rfl,rfl,trivial⟩ ⟨rfl,trivial⟩) ?_
 rintro ⟨i,hi,hp⟩
 dsimp only
 obtain ⟨x,hx⟩:∃x:Mv,0<i→l[((i:Int)-1).toNat]? =some x:=by
  rcases Vb i with h0|h0
  · exact ⟨m,fun h=>oM⟩
  · obtain ⟨x,hx⟩:=Zw (show ((i:Int)-1).toNat<l.length by omega);exact ⟨x,fun _=>hx⟩
 have hi1:((i:Int)-1).toNat=i-1:=oM
 refine nav ?_
 (refine ZZ (fun i=>([]:List Nat).elem i) [3] kR ?_<;>refine xE 0 9 rfl Zb ?_<;>refine xE 1 10 rfl Yz ?_<;>refine xE 2 11 rfl Zb ?_<;>(refine bDd 11 (fun hb11=>?_) (fun hb11=>?_)<;>(first|refine kD 3 12 rfl ?_|(have hx2:=hx oM;have e1:=Yt Z5 l ((i:Int)-1).toNat x hx2;have e2:=YV Z5 hx2;refine yD 3 12 rfl (Zs (k:=3) (ps:=cMv m) 3 kR) fun v12 h=>?_;cases h)))<;>(first|refine kD 4 13 rfl ?_|refine xD 4 13 rfl Zb ?_)<;>(first|refine kD 5 14 rfl ?_|refine xD 5 14 rfl Zb ?_)<;>(first|refine kD 6 15 rfl ?_|refine xD 6 15 rfl KM ?_)<;>(first|refine kD 7 16 rfl ?_|refine xD 7 16 rfl (Si ZL) ?_)<;>(first|refine kD 8 17 rfl ?_|(refine yD 8 17 rfl (WA Z3) fun v17 h=>?_;cases h))<;>(refine Zp 9 kR ?_)<;>(first|(refine YA (d:=18) rfl (cA call187 (D5 m x)) fun v18 h=>?_;cases h)|(refine Zm rfl fun w9 M9 N9 DQ back=>?_;refine kL 18 ?_;refine Zj (back _ (nrm ?_))))<;>refine xE 10 19 rfl ZG ?_<;>refine YC kR (nav ?_)<;>try dsimp only)<;>(
 refine cX ?_ ?_<;>intro hb19
 · first |exact bN hb19|(
 refine Ze ?_;(refine xL 20 Zb (xL 21 KM (xL 5 Za ?_))<;>refine Zc ?_)
 have hi0:0<i:=oM;rw [show ((i:Int)-1)=((i-1:Nat):Int) by omega];refine Zn (
  ⟨i -1,oM,fun j y h1 h2=>by
   by_cases e:j=i-1
   · have hx3:=hx hi0;rw [hi1,←e,h2] at hx3;cases hx3;exact J6.1 hb19
   · exact hp j y oM h2⟩
  ) (by dsimp only;omega) ⟨rfl,rfl,rfl,trivial⟩ ⟨rfl,trivial⟩)
 · first | exact bN hb19|(
 refine nav ?_;(refine ZZ (fun i=>([]:List Nat).elem i) [3] kR ?_<;>refine xE 0 22 rfl Zb ?_<;>refine xE 1 23 rfl Yz ?_<;>refine xE 2 24 rfl Zb ?_<;>(refine bDd 24 (fun hb24=>?_) (fun hb24=>?_)<;>(first|refine kD 3 25 rfl ?_|(have hx2:=hx oM;have e1:=Yt Z5 l ((i:Int)-1).toNat x hx2;have e2:=YV Z5 hx2;refine xD 3 25 rfl Zb ?_)))<;>(first|refine kD 4 26 rfl ?_|refine xD 4 26 rfl Zb ?_)<;>(first|refine kD 5 27 rfl ?_|refine xD 5 27 rfl KM ?_)<;>(first|refine kD 6 28 rfl ?_|refine xD 6 28 rfl (Si ZL) ?_)<;>(first|refine kD 7 29 rfl ?_|(refine yD 7 29 rfl (WA Z3) fun v29 h=>?_;cases h))<;>(first|refine kD 8 30 rfl ?_|(refine yD 8 30 rfl (Zs 3 Z3) fun v30 h=>?_;cases h))<;>(first|refine kD 9 31 rfl ?_|refine xD 9 31 rfl ((Zjn (us:=vMv x) (us':=vMv m) ZmB ZmC ZmD (RF x m) rfl rfl)) ?_)<;>refine xE 10 32 rfl ZG ?_<;>refine YC kR (nav ?_)<;>try dsimp only)<;>(
 refine cX ?_ ?_<;>intro hb32
 · first |exact bN hb32|(
 refine Ze ?_;(refine xL 33 Zb (xL 4 Za ?_)<;>refine Zc ?_)
 refine ZA (results133) rfl ?_
 first
  |(exfalso;simp at hb32;done)
  | (have hxm:=Gy.1 hb32
     rw [ZmE ha (hxm▸Xc (hx oM))]))
 · first | exact bN hb32|(
 refine nav ?_;have g1:=PF Z5 l;have f5:(l.flatMap cMv).length=l.length*3:=flat_len Z5 l;(have f1:(((l.flatMap cMv).drop (0*3)).take ((i-0)*3)).length=(i-0)*3:=by rw [Xn,Uf,f5];omega);(have f3:(((l.flatMap cMv).drop (i*3)).take ((l.length-i)*3)).length=(l.length-i)*3:=by rw [Xn,Uf,f5];omega);have f0:∀q∈l.flatMap cMv,En.one q=true:=XA.1 (L1 l);have f2:(((l.flatMap cMv).drop (0*3)).take ((i-0)*3)).all En.one=true:=XA.2 fun q hq=>f0 q (List.mem_of_mem_drop (VK hq));have f4:(((l.flatMap cMv).drop (i*3)).take ((l.length-i)*3)).all En.one=true:=XA.2 fun q hq=>f0 q (List.mem_of_mem_drop (VK hq));(refine ZZ (fun i=>([]:List Nat).elem i) [3] kR ?_<;>refine xD 1 35 rfl Zb ?_<;>refine xD 2 36 rfl Zb ?_<;>refine xD 3 37 rfl (OP (i:=0) (j:=i) ZL rfl rfl rfl rfl (Xd _) hi f5) ?_<;>(refine yD 5 39 rfl (Zs 3 Z3) fun v39 h=>?_;cases h)<;>(refine YY 0 6 kR ?_ ?_;rotate_right;(focus ((refine Zm rfl fun w9 M9 N9 DQ back=>?_)<;>refine YI 40 ZU fun h40 ho40=>?_<;>refine Zj (back _ (nrm ?_))<;>(refine Zp 0 kR ?_)<;>(refine Zm rfl fun w9 M9 N9 DQ back=>?_)<;>refine J0 34 ZU fun h34 ho34=>?_<;>refine Zj (back _ (nrm ?_))<;>(refine Zp 4 kR ?_)<;>(refine Zm rfl fun w9 M9 N9 DQ back=>?_)<;>refine W2 34 38 ZU (fun h38 ho38=>?_) f1 f2<;>refine Zj (back _ (nrm ?_))<;>(refine Zp 7 kR ?_)<;>(refine Zm rfl fun w9 M9 N9 DQ back=>?_)<;>refine ZY 38 40 41 ZU fun h41 ho41=>?_<;>refine Zj (back _ (nrm ?_))<;>refine xE 8 6 rfl Za ?_));rotate_right;(focus ((refine Zm rfl fun w9 M9 N9 DQ back=>?_)<;>refine J0 34 ZU fun h34 ho34=>?_<;>refine Zj (back _ (nrm ?_))<;>(refine YY 4 6 kR ?_ ?_;rotate_right;(focus ((refine Zm rfl fun w9 M9 N9 DQ back=>?_)<;>refine YI 40 ZU fun h40 ho40=>?_<;>refine Zj (back _ (nrm ?_))<;>(refine Zp 4 kR ?_)<;>(refine Zm rfl fun w9 M9 N9 DQ back=>?_)<;>refine W2 34 38 ZU (fun h38 ho38=>?_) f1 f2<;>refine Zj (back _ (nrm ?_))<;>(refine Zp 7 kR ?_)<;>(refine Zm rfl fun w9 M9 N9 DQ back=>?_)<;>refine ZY 38 40 41 ZU fun h41 ho41=>?_<;>refine Zj (back _ (nrm ?_))<;>refine xE 8 6 rfl Za ?_));rotate_right;(focus ((refine Zm rfl fun w9 M9 N9 DQ back=>?_)<;>refine W2 34 38 ZU (fun h38 ho38=>?_) f1 f2<;>refine Zj (back _ (nrm ?_))<;>(refine Zp 6 kR ?_)<;>(refine Zm rfl fun w9 M9 N9 DQ back=>?_)<;>refine YI 40 ZU fun h40 ho40=>?_<;>refine Zj (back _ (nrm ?_))<;>(refine Zp 7 kR ?_)<;>(refine Zm rfl fun w9 M9 N9 DQ back=>?_)<;>refine ZY 38 40 41 ZU fun h41 ho41=>?_<;>refine Zj (back _ (nrm ?_))<;>refine xE 8 6 rfl Za ?_))))))<;>refine YC kR (nav ?_)<;>try dsimp only)<;>(
 (refine Zt ?_<;>refine xL 42 Zb (xL 43 Zb (xL 44 Zb ?_))<;>refine xL 45 (OP (i:=i) (j:=l.length) ZL rfl rfl rfl rfl hi (Xh _) f5) ?_<;>refine W2 41 46 ZU (fun h46 ho46=>?_) f3 f4<;>refine xL 4 Za ?_<;>refine Zc ?_)
 have hn :∀y,0<i→l[i-1]? =some y→Kj m y=false∧y≠m:=fun y h0 hy=>by
  first
   |(exfalso;omega)
   | (have hx3:=hx h0
      rw [hi1,hy] at hx3;cases hx3;refine ⟨?_,fun e=>?_⟩
      · cases hc:Kj m x with
        |false=>rfl
        |true=>exact UV (J6.2 hc) hb19
      · simp [Gy.2 e] at hb32)
 have hcells:[]++((l.flatMap cMv).drop (0*3)).take ((i-0)*3)++cMv m++((l.flatMap cMv).drop (i*3)).take ((l.length-i)*3)=(R2 m l).flatMap cMv:=by
  rw [ZgE ha hi hp hn,XM,XM,VS,VB,VX,V3,PE Z5,PF Z5,Xj (show ((l.drop i).flatMap cMv).length≤(l.length-i)*3 by rw [flat_len Z5,Uf];exact Xh _),XW]
 have hlen2:0+(i-0)+1+(l.length-i)=(R2 m l).length:=by
  rw [ZgE ha hi hp hn,Xb,Xb,Xn,Uf,Xy];omega
 refine YG (ZF (l:=46) (p':= .own 93 3 (R2 m l).length ((R2 m l).flatMap cMv)) rfl (by rw [←hcells,←hlen2];rfl)) fun _=>?_;refine YG (En.freeze (l:=46) (t:=4) rfl rfl) fun _=>?_;rw [W7 _ _ _ rfl];exact ZA (results133) rfl rfl)))))
theorem Hh (a:Aut) (hl:a.moves.length≤1000000) {p0 p1 p2 p3 p4:PV} {E:Int} (r5:R5 p0 p1 p2 p3 p4) (hm:AF prog 143 [ZJ a] (· = .tup [.agg [p0,p1,p2,p3,p4],pInt E])):AF prog 199 [ZJ a] (· =if 2000<a.n∨20000<a.moves.length then .tup [KR,pInt 13] else .tup [.agg [p0,p1,p2,p3,p4],pInt E]):=by
 obtain ⟨o0,o1,o2,o3,o4⟩:=r5.o
 refine AF.of_body 20 func199 rfl ntmps199 (Xa rfl) ?_
 intro w0 M0 vs hl hv
 obtain ⟨v0,rfl⟩:=WE hl
 clear hl hv
 refine Ze ?_
 (refine ZB 1 5 fun h1=>?_<;>refine Zv [(.int .i64 0),(.int .i64 0),(.slice none 0 0),(.slice none 0 0),(.slice none 0 0)] 5 2 ZI fun h2=>?_<;>refine xL 3 Za ?_<;>refine Zk ?_)
 (refine xL 4 (Zd 1 ZS) ?_<;>(refine yL 5 (Zl 1 Zg) fun v5 h=>?_;cases h)<;>refine xL 6 Yz (xL 7 Zb ?_)<;>(refine bLd 7 (fun hb7=>?_) (fun hb7=>?_)<;>(first|refine kL 8 ?_|refine xL 8 (Zd 1 Zx) ?_))<;>(first|refine kL 9 ?_|(refine yL 9 (Zl 1 ZC) fun v9 h=>?_;cases h))<;>(first|refine kL 10 ?_|refine xL 10 (ZW ZL) ?_)<;>(first|refine kL 11 ?_|refine xL 11 Yz ?_)<;>refine xL 12 ZG ?_<;>refine Zc ?_)<;>(
 refine cX ?_ ?_<;>intro hb12
 · first|exact bN hb12|(
 refine Ze ?_;((refine cP 13 (cA call194 (Gn)) fun va13 vb13 hva13 h=>?_;cases h)<;>refine xL 14 Zi (xL 15 Zi ?_)<;>refine Zz 2 Zf ?_<;>refine xL 3 Za ?_<;>refine Zc ?_)
 exact Z8 (k:=5) 2 kR (results199) rfl rfl rfl (Xa rfl) dC rfl (by rw [UU oM];rfl))
 · first|exact bN hb12|(
 refine Ze ?_;((refine yL 16 (Zs 1 Zf) fun v16 h=>?_;cases h)<;>(refine cP 17 (cA call143 hm) (fun va17 vb17 hva17 hvb17=>?_) (hsh:=r5.t E);cases hvb17)<;>refine xL 18 Zi (xL 19 Zi ?_)<;>refine Zz 2 Zf ?_<;>refine xL 3 Za ?_<;>refine Zc ?_)
 exact Z8 (k:=5) 2 kR (results199) rfl rfl rfl (Xa rfl) dC r5.s (by rw [UT oM];rfl)))
theorem Ta (a:Aut) (hl:a.moves.length≤1000000):AF prog 199 [ZJ a] (· =resW (G0 a)):=by
 have h:=G8 a hl
 unfold G0
 cases hx:Ji a with
 | ok A=>
   rw [hx] at h;have:=Hh a hl (R5.aut A) h;refine this.mono fun p hp=>?_;rw [hp];split<;>rfl
 | error e=>
   rw [hx] at h;have:=Hh a hl R5.raw h;refine this.mono fun p hp=>?_;rw [hp];split<;>rfl
theorem Zg0 (x:Except Int Aut):∃(p0 p1 p2 p3 p4:PV) (E:Int),R5 p0 p1 p2 p3 p4∧resW x= .tup [.agg [p0,p1,p2,p3,p4],pInt E]:=by
 cases x with
 |ok A=>exact ⟨_,_,_,_,_,_,R5.aut A,rfl⟩
 |error e=>exact ⟨_,_,_,_,_,_,R5.raw,rfl⟩
theorem TL (l:List Mv):(l.flatMap cMv).length=l.length*3:=flat_len Z5 l
theorem ZbQ (a b:Aut) (e:Int) (he:¬e=0) (hf:AF prog 196 [ZJ a,ZJ b] (· =pInt e)):AF prog 146 [ZJ a,ZJ b] (· = .tup [KR,pInt e]):=by
 refine AF.of_body 62 func146 rfl ntmps146 (Xa rfl) ?_
 intro w0 M0 vs hl hv
 obtain ⟨v0,v1,rfl⟩:=YX hl
 clear hl hv
 refine Ze ?_
 (refine ZB 2 5 fun h2=>?_<;>refine ZB 3 5 fun h3=>?_<;>refine Zv [(.int .i64 0),(.int .i64 0),(.slice none 0 0),(.slice none 0 0),(.slice none 0 0)] 5 4 ZI fun h4=>?_<;>refine xL 5 Za ?_<;>refine Zk ?_)
 ((refine yL 9 (Zs 2 Zf) fun v9 h=>?_;cases h)<;>(refine yL 10 (Zs 3 Zf) fun v10 h=>?_;cases h)<;>(refine cS 11 (cA call196 (hf)) fun v11 h=>?_;cases h)<;>refine xL 6 Za ?_<;>refine Zk ?_)
 (refine xL 12 Zb (xL 13 Yn ?_)<;>refine Zc ?_)
 refine cX ?_ ?_<;>intro hb13
 · refine Ze ?_;(refine xL 14 (ZO ZX) (xL 15 Zb ?_)<;>refine Zz 4 Zf ?_<;>refine xL 5 Za ?_<;>refine Zc ?_)
   exact Z8 (k:=5) 4 kR (results146) rfl rfl rfl (Xa rfl) dC rfl rfl
 · exact UV (by simpa using hb13) he
set_option maxHeartbeats 2000000 in
theorem Zf2 (a b:Aut) (hla:a.moves.length≤1000000) (hlb:b.moves.length≤1000000) (hf0:Wt a b=0) {p0 p1 p2 p3 p4:PV} {E:Int} (r5:R5 p0 p1 p2 p3 p4) (hr:AF prog 199 [ZJ (Kh a b)] (· = .tup [.agg [p0,p1,p2,p3,p4],pInt E])):AF prog 146 [ZJ a,ZJ b] (· = .tup [.agg [p0,p1,p2,p3,p4],pInt E]):=by
 obtain ⟨o0,o1,o2,o3,o4⟩:=r5.o
 obtain ⟨ha,hb,hs⟩:=Jv hf0
 have hf:=Gs a b hla hlb
 rw [hf0] at hf
 have hn0:=ha.n0
 have hn1:=ha.n1
 have k0:=ha.ml
 have k1:=ha.sl
 have k2:=hb.sl
 have k3:=ha.fl
 have k4:=hb.fl
 have m0:=hb.n0
 have m1:=hb.n1
 have kml:=RP ha.toAOk hb.toAOk
 have kmb:=hb.ml
 have l1:=K4 a.n b.start
 have l2:=K4 a.n b.fin
 have l3:=Lz a.n b.moves
 refine AF.of_body 62 func146 rfl ntmps146 (Xa rfl) ?_
 intro w0 M0 vs hl hv
 obtain ⟨v0,v1,rfl⟩:=YX hl
 clear hl hv
 refine Ze ?_
 (refine ZB 2 5 fun h2=>?_<;>refine ZB 3 5 fun h3=>?_<;>refine Zv [(.int .i64 0),(.int .i64 0),(.slice none 0 0),(.slice none 0 0),(.slice none 0 0)] 5 4 ZI fun h4=>?_<;>refine xL 5 Za ?_<;>refine Zk ?_)
 ((refine yL 9 (Zs 2 Zf) fun v9 h=>?_;cases h)<;>(refine yL 10 (Zs 3 Zf) fun v10 h=>?_;cases h)<;>(refine cS 11 (cA call196 (hf)) fun v11 h=>?_;cases h)<;>refine xL 6 Za ?_<;>refine Zk ?_)
 (refine xL 12 Zb (xL 13 Yn ?_)<;>refine Zc ?_)
 refine cX ?_ ?_<;>intro hb13
 · first|omega|exact UV rfl hb13|exact bN hb13
 · refine Ze ?_;(refine xL 16 (Zd 2 ZS) ?_<;>(refine yL 17 (Zl 2 Zg) fun v17 h=>?_;cases h)<;>refine xL 7 Za ?_<;>refine Zk ?_)
   (refine xL 18 Zb (xL 19 (Zd 3 ZS) ?_)<;>(refine yL 20 (Zl 3 Zg) fun v20 h=>?_;cases h)<;>refine xL 21 ZK (xL 22 (Zd 2 ZT) ?_)<;>(refine yL 23 (Zl 2 Zg) fun v23 h=>?_;cases h)<;>refine xL 24 (ZO ZX) ?_<;>refine Zv [(.int .i64 0),(.int .i64 0),(.slice none 0 0),(.slice none 0 0),(.slice none 0 0)] 5 8 ZI fun h8=>?_<;>refine Zz 8 Zf ?_<;>refine Zc ?_)
   refine Zq (WF (l:=8) [pInt (a.n+b.n),pInt a.syms, .own 3 1 0 [], .own 3 1 0 [], .own 93 3 0 []] rfl rfl (fun i p p' h1 h2=>by
    match i with
    |0=>cases h1;cases h2;exact .inl rfl
    |1=>cases h1;cases h2;exact .inl rfl
    |2=>cases h1;cases h2;exact .inr ⟨rfl,_,_,rfl⟩
    |3=>cases h1;cases h2;exact .inr ⟨rfl,_,_,rfl⟩
    |4=>cases h1;cases h2;exact .inr ⟨rfl,_,_,rfl⟩
    |i+5=>simp at h2)) fun _=>?_
   refine Zq (We (l:=8) (l':=301) (j:=2) rfl rfl rfl rfl) fun i=>?_;obtain ⟨v301,ho301⟩:=i;dsimp only [List.set];refine Zq (We (l:=8) (l':=302) (j:=3) rfl rfl rfl rfl) fun i=>?_;obtain ⟨v302,ho302⟩:=i;dsimp only [List.set];refine Zq (We (l:=8) (l':=303) (j:=4) rfl rfl rfl rfl) fun i=>?_;obtain ⟨v303,ho303⟩:=i;dsimp only [List.set];(refine ZZ (fun i=>([11]:List Nat).elem i) [2,3,8] kR ?_<;>refine xD 0 25 rfl (Zd 8 Z9) ?_<;>(refine yD 1 26 rfl (Zl 8 Zy) fun v26 h=>?_;cases h)<;>refine xD 2 27 rfl (Zd 2 Z9) ?_<;>(refine yD 3 28 rfl (Zl 2 Zy) fun v28 h=>?_;cases h)<;>refine xD 5 30 rfl (Zd 3 Z9) ?_<;>(refine yD 6 31 rfl (Zl 3 Zy) fun v31 h=>?_;cases h)<;>refine xD 7 32 rfl Zb ?_<;>(refine Zp 4 kR ?_)<;>(refine Zm rfl fun w9 M9 N9 DQ back=>?_)<;>refine W2 301 29 Zo (fun h29 ho29=>?_) (JP a.start) (GN a.start)<;>refine Zj (back _ (nrm ?_))<;>(refine Zp 8 kR ?_)<;>(refine Zm rfl fun w9 M9 N9 DQ back=>?_)<;>(refine cO 33 (cA call197 (Sf b.start a.n oM oM (fun x hx=>by have:=hb.st x hx;omega))) fun v33 ho33=>?_;refine Zu (En.freeze (l:=33) (t:=33) rfl rfl) fun _=>?_;rw [ZV _ _ _ rfl])<;>refine Zj (back _ (nrm ?_))<;>(refine Zp 9 kR ?_)<;>(refine Zm rfl fun w9 M9 N9 DQ back=>?_)<;>(refine W2 29 34 Zo (fun h34 ho34=>?_) (JP (Y5 a.n b.start)) (GN (Y5 a.n b.start));have q34:En.one (PV.val h34)=true:=ho34)<;>refine Zj (back _ (nrm ?_))<;>refine xE 10 35 rfl (Zd 8 Z9) ?_<;>(refine Zp 11 kR ?_)<;>(refine Kb rfl rfl kR fun DQ back=>?_)<;>refine YQ 8 Zy Wo ?_<;>refine Zj (back _ (nav ?_))<;>try dsimp only)
   refine Zq (ZF (l:=34) (p':= .own 3 1 (a.start++Y5 a.n b.start).length ((a.start++Y5 a.n b.start).map pInt)) rfl (by (try rw [Xw]);(try rw [XW]);exact TJ _ a.start (Y5 a.n b.start))) fun _=>?_;refine Zq (Z7 (l:=8) (l':=34) (j:=2) rfl rfl rfl rfl) fun _=>?_;rw [ZV _ _ _ rfl];(refine ZZ (fun i=>([11]:List Nat).elem i) [2,3,8] kR ?_<;>refine xD 0 36 rfl (Zd 8 Z2) ?_<;>(refine yD 1 37 rfl (Zl 8 Zy) fun v37 h=>?_;cases h)<;>refine xD 2 38 rfl (Zd 2 Z2) ?_<;>(refine yD 3 39 rfl (Zl 2 Zy) fun v39 h=>?_;cases h)<;>refine xD 5 41 rfl (Zd 3 Z2) ?_<;>(refine yD 6 42 rfl (Zl 3 Zy) fun v42 h=>?_;cases h)<;>refine xD 7 43 rfl Zb ?_<;>(refine Zp 4 kR ?_)<;>(refine Zm rfl fun w9 M9 N9 DQ back=>?_)<;>refine W2 302 40 Zo (fun h40 ho40=>?_) (JP a.fin) (GN a.fin)<;>refine Zj (back _ (nrm ?_))<;>(refine Zp 8 kR ?_)<;>(refine Zm rfl fun w9 M9 N9 DQ back=>?_)<;>(refine cO 44 (cA call197 (Sf b.fin a.n oM oM (fun x hx=>by have:=hb.fi x hx;omega))) fun v44 ho44=>?_;refine Zu (En.freeze (l:=44) (t:=44) rfl rfl) fun _=>?_;rw [ZV _ _ _ rfl])<;>refine Zj (back _ (nrm ?_))<;>(refine Zp 9 kR ?_)<;>(refine Zm rfl fun w9 M9 N9 DQ back=>?_)<;>(refine W2 40 45 Zo (fun h45 ho45=>?_) (JP (Y5 a.n b.fin)) (GN (Y5 a.n b.fin));have q45:En.one (PV.val h45)=true:=ho45)<;>refine Zj (back _ (nrm ?_))<;>refine xE 10 46 rfl (Zd 8 Z2) ?_<;>(refine Zp 11 kR ?_)<;>(refine Kb rfl rfl kR fun DQ back=>?_)<;>refine YQ 8 Zy Wo ?_<;>refine Zj (back _ (nav ?_))<;>try dsimp only)
   refine Zq (ZF (l:=45) (p':= .own 3 1 (a.fin++Y5 a.n b.fin).length ((a.fin++Y5 a.n b.fin).map pInt)) rfl (by (try rw [Xw]);(try rw [XW]);exact TJ _ a.fin (Y5 a.n b.fin))) fun _=>?_;refine Zq (Z7 (l:=8) (l':=45) (j:=3) rfl rfl rfl rfl) fun _=>?_;rw [ZV _ _ _ rfl];(refine ZZ (fun i=>([11]:List Nat).elem i) [2,3,8] kR ?_<;>refine xD 0 47 rfl (Zd 8 Zx) ?_<;>(refine yD 1 48 rfl (Zl 8 ZC) fun v48 h=>?_;cases h)<;>refine xD 2 49 rfl (Zd 2 Zx) ?_<;>(refine yD 3 50 rfl (Zl 2 ZC) fun v50 h=>?_;cases h)<;>refine xD 5 52 rfl (Zd 3 Zx) ?_<;>(refine yD 6 53 rfl (Zl 3 ZC) fun v53 h=>?_;cases h)<;>refine xD 7 54 rfl Zb ?_<;>(refine Zp 4 kR ?_)<;>(refine Zm rfl fun w9 M9 N9 DQ back=>?_)<;>refine W2 303 51 ZU (fun h51 ho51=>?_) (TL a.moves) (L1 a.moves)<;>refine Zj (back _ (nrm ?_))<;>(refine Zp 8 kR ?_)<;>(refine Zm rfl fun w9 M9 N9 DQ back=>?_)<;>(refine cO 55 (cA call198 (CG b a.n hb.toAOk oM)) fun v55 ho55=>?_;refine Zu (En.freeze (l:=55) (t:=55) rfl rfl) fun _=>?_;rw [W7 _ _ _ rfl])<;>refine Zj (back _ (nrm ?_))<;>(refine Zp 9 kR ?_)<;>(refine Zm rfl fun w9 M9 N9 DQ back=>?_)<;>(refine W2 51 56 ZU (fun h56 ho56=>?_) (TL (KS a.n b.moves)) (L1 (KS a.n b.moves));have q56:En.one (PV.val h56)=true:=ho56)<;>refine Zj (back _ (nrm ?_))<;>refine xE 10 57 rfl (Zd 8 Zx) ?_<;>(refine Zp 11 kR ?_)<;>(refine Kb rfl rfl kR fun DQ back=>?_)<;>refine YQ 8 ZC YK ?_<;>refine Zj (back _ (nav ?_))<;>try dsimp only)
   refine Zq (ZF (l:=56) (p':= .own 93 3 (bsM a b).length ((bsM a b).flatMap cMv)) rfl (by (try rw [Xw]);(try rw [XW]);rw [←XM,←Xb];rfl)) fun _=>?_;refine Zq (Z7 (l:=8) (l':=56) (j:=4) rfl rfl rfl rfl) fun _=>?_;rw [W7 _ _ _ rfl];(refine Zt ?_<;>(refine yL 58 (Zs 8 Zf) fun v58 h=>?_;cases h)<;>(refine cP 59 (cA call199 hr) (fun va59 vb59 hva59 hvb59=>?_) (hsh:=r5.t E);cases hvb59)<;>refine xL 60 Zi (xL 61 Zi ?_)<;>refine Zz 4 Zf ?_<;>refine xL 5 Za ?_<;>refine Zc ?_)
   exact Z8 (k:=5) 4 kR (results146) rfl rfl rfl (Xa rfl) dC r5.s rfl
theorem Zf3 (a b:Aut) (hla:a.moves.length≤1000000) (hlb:b.moves.length≤1000000):AF prog 146 [ZJ a,ZJ b] (· =resW (Gj a b)):=by
 unfold Gj
 by_cases h0:Wt a b=0
 · rw [UT (fun h=>h h0)];obtain ⟨ha,hb,hs⟩:=Jv h0;have hr:=Ta (Kh a b) (by have:=RP ha.toAOk hb.toAOk;show (bsM a b).length≤1000000;omega);rw [ZfF ha hb hs];obtain ⟨p0,p1,p2,p3,p4,E,h5,h2⟩:=Zg0 (G0 (Kh a b));rw [h2] at hr ⊢;exact Zf2 a b hla hlb h0 h5 hr
 · rw [UU h0];exact ZbQ a b _ h0 (Gs a b hla hlb)
theorem Zen (a:Aut) (hla:a.moves.length≤1000000) (hv:Z1 a=false):AF prog 145 [ZJ a] (· = .tup [KR,pInt 1]):=by
 refine AF.of_body 70 func145 rfl ntmps145 (Xa rfl) ?_
 intro w0 M0 vs hl hv
 obtain ⟨v0,rfl⟩:=WE hl
 clear hl hv
 refine Ze ?_
 (refine ZB 1 5 fun h1=>?_<;>refine Zv [(.int .i64 0),(.int .i64 0),(.slice none 0 0),(.slice none 0 0),(.slice none 0 0)] 5 2 ZI fun h2=>?_<;>refine xL 3 Za ?_<;>refine Zk ?_)
 ((refine yL 8 (Zs 1 Zf) fun v8 h=>?_;cases h)<;>(refine cS 9 (cA call192 (Yc a hla)) fun v9 h=>?_;cases h)<;>refine xL 10 Z' ?_<;>refine Zc ?_)
 refine cX ?_ ?_<;>intro hb10
 · refine Ze ?_;(refine xL 11 (ZO ZX) ?_<;>refine Zz 2 Zf ?_<;>refine xL 3 Za ?_<;>refine Zc ?_)
   exact Z8 (k:=5) 2 kR (results145) rfl rfl rfl (Xa rfl) dC rfl rfl
 · rw [hv] at hb10;simp at hb10
set_option maxHeartbeats 2000000 in
theorem Ziz (a:Aut) (hla:a.moves.length≤1000000) (hv:Z1 a=true) {p0 p1 p2 p3 p4:PV} {E:Int} (r5:R5 p0 p1 p2 p3 p4) (hr:AF prog 199 [ZJ (mkA (K2 a))] (· = .tup [.agg [p0,p1,p2,p3,p4],pInt E])):AF prog 145 [ZJ a] (· = .tup [.agg [p0,p1,p2,p3,p4],pInt E]):=by
 obtain ⟨o0,o1,o2,o3,o4⟩:=r5.o
 have h:=W3 hv
 have hn0:=h.n0
 have hn1:=h.n1
 have hml:=h.ml
 have hsl:=h.sl
 have hfl:=h.fl
 refine AF.of_body 70 func145 rfl ntmps145 (Xa rfl) ?_
 intro w0 M0 vs hl hv
 obtain ⟨v0,rfl⟩:=WE hl
 clear hl hv
 refine Ze ?_
 (refine ZB 1 5 fun h1=>?_<;>refine Zv [(.int .i64 0),(.int .i64 0),(.slice none 0 0),(.slice none 0 0),(.slice none 0 0)] 5 2 ZI fun h2=>?_<;>refine xL 3 Za ?_<;>refine Zk ?_)
 ((refine yL 8 (Zs 1 Zf) fun v8 h=>?_;cases h)<;>(refine cS 9 (cA call192 (Yc a hla)) fun v9 h=>?_;cases h)<;>refine xL 10 Z' ?_<;>refine Zc ?_)
 refine cX ?_ ?_<;>intro hb10
 · rw [hv] at hb10;simp at hb10
 · refine Ze ?_;(refine xL 12 (Zd 1 ZS) ?_<;>(refine yL 13 (Zl 1 Zg) fun v13 h=>?_;cases h)<;>refine xL 4 Za ?_<;>refine Zk ?_)
   (refine xL 14 Zb (xL 15 ZK (xL 16 (Zd 1 ZT) ?_))<;>(refine yL 17 (Zl 1 Zg) fun v17 h=>?_;cases h)<;>refine xL 18 Zb ?_<;>(refine ZM (kk:=1) 19 Zo fun h19 ho19=>?_;refine Zu (En.freeze (l:=19) (t:=19) rfl rfl) fun _=>?_;rw [show share (PV.own 3 1 1 [PV.val (.int .i64 a.n)])=pInts [a.n] from rfl])<;>refine xL 20 Zb ?_<;>(refine ZM (kk:=1) 21 Zo fun h21 ho21=>?_;refine Zu (En.freeze (l:=21) (t:=21) rfl rfl) fun _=>?_;rw [show share (PV.own 3 1 1 [PV.val (.int .i64 a.n)])=pInts [a.n] from rfl])<;>refine xL 22 (ZO ZX) ?_<;>refine Zv [(.int .i64 0),(.int .i64 0),(.slice none 0 0),(.slice none 0 0),(.slice none 0 0)] 5 5 ZI fun h5=>?_<;>refine Zz 5 Zf ?_<;>refine Zc ?_)
   refine Zq (WF (l:=5) [pInt (a.n+1),pInt a.syms,pInts [a.n],pInts [a.n], .own 93 3 0 []] rfl rfl (fun i p p' h1 h2=>by
    match i with
    |0=>cases h1;cases h2;exact .inl rfl
    |1=>cases h1;cases h2;exact .inl rfl
    |2=>cases h1;cases h2;exact .inl rfl
    |3=>cases h1;cases h2;exact .inl rfl
    |4=>cases h1;cases h2;exact .inr ⟨rfl,_,_,rfl⟩
    |i+5=>simp at h2)) fun _=>?_
   refine Zq (We (l:=5) (l':=301) (j:=4) rfl rfl rfl rfl) fun i=>?_;obtain ⟨v301,ho301⟩:=i;dsimp only [List.set];(refine Zt ?_<;>refine xL 23 (Zd 5 Zx) ?_<;>(refine yL 24 (Zl 5 ZC) fun v24 h=>?_;cases h)<;>refine xL 25 (Zd 1 Zx) ?_<;>(refine yL 26 (Zl 1 ZC) fun v26 h=>?_;cases h)<;>(refine W2 301 27 ZU (fun h27 ho27=>?_) (TL a.moves) (L1 a.moves);have q27:En.one (PV.val h27)=true:=ho27)<;>refine xL 28 (Zd 5 Zx) ?_<;>refine YQ 5 ZC YK ?_<;>refine Zc ?_)
   refine Zq (ZD (l:=27) 301 rfl rfl) fun _=>?_;refine Zq (ZF (l:=301) (p':= .own 93 3 (a.moves++KE a.n (a.start.take 0)).length ((a.moves++KE a.n (a.start.take 0)).flatMap cMv)) rfl (by (try rw [Xw]);(try rw [XW]);rw [show KE a.n (a.start.take 0)=[] from rfl,Xr])) fun _=>?_;(refine Zt ?_<;>refine xL 6 Za ?_<;>refine Zc ?_)
   refine ZE (ι:={q:Nat×Value//q.1≤a.start.length∧q.2.oneCell'=true}) (fun k=>⟨[(1,_,_),(2,_,_),(4,_,_),(5,_,_),(6, .int .i64 k.1.1,pInt k.1.1)],[(1,_,_),(2,_,_),(5,h5, .own 39 5 1 [pInt (a.n+1),pInt a.syms,pInts [a.n],pInts [a.n], .val k.1.2]),(301,k.1.2, .own 93 3 (a.moves++KE a.n (a.start.take k.1.1)).length ((a.moves++KE a.n (a.start.take k.1.1)).flatMap cMv))]⟩) (fun k=>a.start.length-k.1.1) ⟨(0,h27),Xd _,ho27⟩ (fun a w H=>H.weaken ⟨rfl,rfl,rfl,rfl,rfl,trivial⟩ ⟨rfl,rfl,rfl,rfl,trivial⟩) ?_;rintro ⟨⟨k,hM⟩,hk,hMo⟩;dsimp only;dsimp only at hk hMo;have hl1:(a.moves++KE a.n (a.start.take k)).length≤30000:=by unfold KE;rw [Xb,Xe,Xn];omega
   have q5:En.one (PV.val hM)=true:=hMo;refine Ze ?_;(refine xL 29 Zb (xL 30 (Zd 1 Z9) ?_)<;>(refine yL 31 (Zl 1 Zy) fun v31 h=>?_;cases h)<;>refine xL 32 (ZW Zr) (xL 33 ZQ ?_)<;>refine Zc ?_)
   refine cX ?_ ?_<;>intro hb33
   · first|exact bN hb33|(
 obtain ⟨x,hx⟩:=Zw (show k<a.start.length by omega);have e1:=Yb (f:=pInt) hx;refine nav ?_;(refine ZZ (fun i=>([12]:List Nat).elem i) [1,5] kR ?_<;>refine xD 0 36 rfl (Zd 5 Zx) ?_<;>(refine yD 1 37 rfl (Zl 5 ZC) fun v37 h=>?_;cases h)<;>refine xD 2 38 rfl Zb ?_<;>refine xD 3 39 rfl (Zd 1 Z9) ?_<;>(refine yD 4 40 rfl (Zl 1 Zy) fun v40 h=>?_;cases h)<;>refine xE 5 41 rfl Zb ?_<;>refine xE 6 42 rfl (ZH Zr) ?_<;>(refine yE 7 43 rfl (Ya Zg) fun v43 h=>?_;cases h)<;>refine xE 8 44 rfl (ZO YW) ?_<;>(refine Zp 9 kR ?_)<;>(refine Zm rfl fun w9 M9 N9 DQ back=>?_)<;>refine YI 45 ZU fun h45 ho45=>?_<;>refine Zj (back _ (nrm ?_))<;>(refine Zp 10 kR ?_)<;>(refine Zm rfl fun w9 M9 N9 DQ back=>?_)<;>(refine ZY 301 45 46 ZU fun h46 ho46=>?_;refine Zu (ZD (l:=46) 301 rfl rfl) fun _=>?_;refine Zu (ZF (l:=301) rfl ((WZ _ (a.moves++KE a.n (a.start.take k)) ⟨a.n,x,-1⟩).trans (by rw [Xu,←Zak a.n hx]))) fun _=>?_;have q46:En.one (PV.val h46)=true:=ho46)<;>refine Zj (back _ (nrm ?_))<;>refine xE 11 47 rfl (Zd 5 Zx) ?_<;>(refine Zp 12 kR ?_)<;>(refine Kb rfl rfl kR fun DQ back=>?_)<;>refine YQ 5 ZC YK ?_<;>refine Zj (back _ (nav ?_))<;>try dsimp only)
 (refine Zt ?_<;>refine xL 34 Zb (xL 35 ZK (xL 6 Za ?_))<;>refine Zc ?_)
 refine Zn (
  ⟨(k+1,h46),Zh hx,ho46⟩
  ) (by dsimp only;omega) ⟨rfl,rfl,rfl,rfl,rfl,trivial⟩ ⟨rfl,rfl,rfl,rfl,trivial⟩)
   · first |exact bN hb33|(
 rw [Xj (show a.start.length≤k by omega)];refine nav ?_;refine Zq (Z7 (l:=5) (l':=301) (j:=4) rfl rfl rfl rfl) fun _=>?_;rw [W7 _ _ _ rfl];refine Zq (ZF (l:=5) (p':= .own 39 5 1 [pInt (a.n+1),pInt a.syms,pInts [a.n],pInts [a.n],pMvs (mkM (a.moves++KE a.n a.start++Sr a.n (a.fin.take 0)))]) rfl (by rw [show Sr a.n (a.fin.take 0)=[] from rfl,Xr,show mkM (a.moves++KE a.n a.start)=a.moves++KE a.n a.start from ZfE (Zkp h)];rfl)) fun _=>?_;(refine Zt ?_<;>refine xL 7 Za ?_<;>refine Zc ?_)
 refine ZE (ι:={k:Nat//k≤a.fin.length}) (fun k=>⟨[(1,_,_),(2,_,_),(4,_,_),(5,_,_),(7, .int .i64 k.1,pInt k.1)],[(1,_,_),(2,_,_),(5,h5, .own 39 5 1 [pInt (a.n+1),pInt a.syms,pInts [a.n],pInts [a.n],pMvs (mkM (a.moves++KE a.n a.start++Sr a.n (a.fin.take k.1)))])]⟩) (fun k=>a.fin.length-k.1) ⟨0,Xd _⟩ (fun a w H=>H.weaken ⟨rfl,rfl,rfl,rfl,rfl,trivial⟩ ⟨rfl,rfl,rfl,trivial⟩) ?_;rintro ⟨j,hj⟩;dsimp only;refine Ze ?_;(refine xL 48 Zb (xL 49 (Zd 1 Z2) ?_)<;>(refine yL 50 (Zl 1 Zy) fun v50 h=>?_;cases h)<;>refine xL 51 (ZW Zr) (xL 52 ZQ ?_)<;>refine Zc ?_)
 refine cX ?_ ?_<;>intro hb52
 · first|exact bN hb52|(
 obtain ⟨y,hy⟩:=Zw (show j<a.fin.length by omega);have e1:=Yb (f:=pInt) hy;have hins:AF prog 133 [pMvs (mkM (a.moves++KE a.n a.start++Sr a.n (a.fin.take j))), .agg (cMv ⟨y,a.n,-1⟩)] (· =pMvs (mkM (a.moves++KE a.n a.start++Sr a.n (a.fin.take (j+1))))):=by
  have h1:=GR (mkM (a.moves++KE a.n a.start++Sr a.n (a.fin.take j))) ⟨y,a.n,-1⟩ (XN (Gz _) (by unfold KE Sr;rw [Xb,Xb,Xe,Xe,Xn];omega)) (Kl _);rw [Zbs,Xu (a.moves++KE a.n a.start),←Zal a.n hy] at h1;exact h1
 refine nav ?_;(refine ZZ (fun i=>([11]:List Nat).elem i) [1,5] kR ?_<;>refine xD 0 55 rfl (Zd 5 Zx) ?_<;>(refine yD 1 56 rfl (Zl 5 ZC) fun v56 h=>?_;cases h)<;>refine xD 2 57 rfl (Zd 1 Z2) ?_<;>(refine yD 3 58 rfl (Zl 1 Zy) fun v58 h=>?_;cases h)<;>refine xD 4 59 rfl Zb ?_<;>refine xD 5 60 rfl (ZH Zr) ?_<;>(refine yD 6 61 rfl (Ya Zg) fun v61 h=>?_;cases h)<;>refine xE 7 62 rfl Zb ?_<;>refine xE 8 63 rfl (ZO YW) ?_<;>(refine Zp 9 kR ?_)<;>(refine Zm rfl fun w9 M9 N9 DQ back=>?_)<;>(refine cS 64 (cA call133 (hins)) fun v64 h=>?_;cases h)<;>refine Zj (back _ (nrm ?_))<;>refine xE 10 65 rfl (Zd 5 Zx) ?_<;>(refine Zp 11 kR ?_)<;>(refine Kb rfl rfl kR fun DQ back=>?_)<;>refine YQ 5 ZC YK ?_<;>refine Zj (back _ (nav ?_))<;>try dsimp only)
 (refine Zt ?_<;>refine xL 53 Zb (xL 54 ZK (xL 7 Za ?_))<;>refine Zc ?_)
 refine Zn (
  ⟨j+1,Zh hy⟩
  ) (by dsimp only;omega) ⟨rfl,rfl,rfl,rfl,rfl,trivial⟩ ⟨rfl,rfl,rfl,trivial⟩)
 · first|exact bN hb52|(
 rw [Xj (show a.fin.length≤j by omega)];refine Ze ?_;((refine yL 66 (Zs 5 Zf) fun v66 h=>?_;cases h)<;>(refine cP 67 (cA call199 hr) (fun va67 vb67 hva67 hvb67=>?_) (hsh:=r5.t E);cases hvb67)<;>refine xL 68 Zi (xL 69 Zi ?_)<;>refine Zz 2 Zf ?_<;>refine xL 3 Za ?_<;>refine Zc ?_)
 exact Z8 (k:=5) 2 kR (results145) rfl rfl rfl (Xa rfl) dC r5.s rfl))
theorem ZiA (a:Aut) (hla:a.moves.length≤1000000):AF prog 145 [ZJ a] (· =resW (JL a)):=by
 unfold JL
 cases hv:Z1 a with
 |false=>rw [UT sM];exact Zen a hla hv
 | true=>
   rw [UU rfl];have h:=W3 hv;have hr:=Ta (mkA (K2 a)) (XN (Gz _) (Cw h.toAOk));rw [Zh4 h];obtain ⟨p0,p1,p2,p3,p4,E,h5,h2⟩:=Zg0 (G0 (mkA (K2 a)));rw [h2] at hr ⊢;exact Ziz a hla hv h5 hr
theorem ζb (a b:Aut) (e:Int) (he:¬e=0) (hf:AF prog 196 [ZJ a,ZJ b] (· =pInt e)):AF prog 144 [ZJ a,ZJ b] (· = .tup [KR,pInt e]):=by
 refine AF.of_body 103 func144 rfl ntmps144 (Xa rfl) ?_
 intro w0 M0 vs hl hv
 obtain ⟨v0,v1,rfl⟩:=YX hl
 clear hl hv
 refine Ze ?_
 (refine ZB 2 5 fun h2=>?_<;>refine ZB 3 5 fun h3=>?_<;>refine Zv [(.int .i64 0),(.int .i64 0),(.slice none 0 0),(.slice none 0 0),(.slice none 0 0)] 5 4 ZI fun h4=>?_<;>refine xL 5 Za ?_<;>refine Zk ?_)
 ((refine yL 11 (Zs 2 Zf) fun v11 h=>?_;cases h)<;>(refine yL 12 (Zs 3 Zf) fun v12 h=>?_;cases h)<;>(refine cS 13 (cA call196 (hf)) fun v13 h=>?_;cases h)<;>refine xL 6 Za ?_<;>refine Zk ?_)
 (refine xL 14 Zb (xL 15 Yn ?_)<;>refine Zc ?_)
 refine cX ?_ ?_<;>intro hb15
 · refine Ze ?_;(refine xL 16 (ZO ZX) (xL 17 Zb ?_)<;>refine Zz 4 Zf ?_<;>refine xL 5 Za ?_<;>refine Zc ?_)
   exact Z8 (k:=5) 4 kR (results144) rfl rfl rfl (Xa rfl) dC rfl rfl
 · exact UV (by simpa using hb15) he
set_option maxHeartbeats 4000000 in
theorem Zeo (a b :Aut) (hla:a.moves.length≤1000000) (hlb:b.moves.length≤1000000) (hf0:Wt a b=0) {p0 p1 p2 p3 p4:PV} {E:Int} (r5:R5 p0 p1 p2 p3 p4) (hr:(Ku a b).moves.length≤20000→AF prog 199 [ZJ (mkA (Ku a b))] (· = .tup [.agg [p0,p1,p2,p3,p4],pInt E])):AF prog 144 [ZJ a,ZJ b] (· =if 2000<a.n+b.n∨20000<(Ku a b).moves.length then .tup [KR,pInt 13] else .tup [.agg [p0,p1,p2,p3,p4],pInt E]):=by
 obtain ⟨o0,o1,o2,o3,o4⟩:=r5.o
 obtain ⟨ha,hb,hs⟩:=Jv hf0
 have hf:=Gs a b hla hlb
 rw [hf0] at hf
 have hn0:=ha.n0
 have hn1:=ha.n1
 have k0:=ha.ml
 have k1:=ha.sl
 have k2:=hb.sl
 have k3:=ha.fl
 have k4:=hb.fl
 have m0:=hb.n0
 have m1:=hb.n1
 have kml:=RP ha.toAOk hb.toAOk
 have kmb:=hb.ml
 have l2:=K4 a.n b.fin
 have l3:=Lz a.n b.moves
 have hFS:a.fin.length*b.start.length≤2000*2000:=Vw k3 k2
 have hFI:((a.fin.length*b.start.length:Nat):Int)=(a.fin.length:Int)*(b.start.length:Int):=Vr _ _
 have hcl:=Ov a b
 refine AF.of_body 103 func144 rfl ntmps144 (Xa rfl) ?_
 intro w0 M0 vs hl hv
 obtain ⟨v0,v1,rfl⟩:=YX hl
 clear hl hv
 refine Ze ?_
 (refine ZB 2 5 fun h2=>?_<;>refine ZB 3 5 fun h3=>?_<;>refine Zv [(.int .i64 0),(.int .i64 0),(.slice none 0 0),(.slice none 0 0),(.slice none 0 0)] 5 4 ZI fun h4=>?_<;>refine xL 5 Za ?_<;>refine Zk ?_)
 ((refine yL 11 (Zs 2 Zf) fun v11 h=>?_;cases h)<;>(refine yL 12 (Zs 3 Zf) fun v12 h=>?_;cases h)<;>(refine cS 13 (cA call196 (hf)) fun v13 h=>?_;cases h)<;>refine xL 6 Za ?_<;>refine Zk ?_)
 (refine xL 14 Zb (xL 15 Yn ?_)<;>refine Zc ?_)
 refine cX ?_ ?_<;>intro hb15
 · first|omega|exact UV rfl hb15|exact bN hb15
 · refine Ze ?_;(refine xL 18 (Zd 2 ZS) ?_<;>(refine yL 19 (Zl 2 Zg) fun v19 h=>?_;cases h)<;>refine xL 7 Za ?_<;>refine Zc ?_)
   refine Pe (fun h8:Value=>⟨[(2,padd (sbase h2) 0, .val (padd (sbase h2) 0)),(3,padd (sbase h3) 0, .val (padd (sbase h3) 0)),(4,padd (sbase h4) 0, .val (padd (sbase h4) 0)),(7, .int .i64 a.n,pInt a.n),(8,padd (sbase h8) 0, .val (padd (sbase h8) 0))],[(2,h2, .own 39 5 1 [pInt a.n,pInt a.syms,pInts a.start,pInts a.fin,pMvs a.moves]),(3,h3, .own 39 5 1 [pInt b.n,pInt b.syms,pInts b.start,pInts b.fin,pMvs b.moves]),(4,h4, .own 39 5 1 [pInt 0,pInt 0, .val (.slice none 0 0), .val (.slice none 0 0), .val (.slice none 0 0)]),(8,h8, .own 39 5 1 [pInt (a.n+b.n),pInt a.syms,pInts a.start,pInts (Y5 a.n b.fin), .val (.slice none 0 0)])]⟩) ?_ ?_
   · (refine ZZ (fun i=>([]:List Nat).elem i) [2,3] kR ?_<;>refine xD 0 20 rfl Zb ?_<;>refine xD 1 21 rfl (Zd 3 ZS) ?_<;>(refine yD 2 22 rfl (Zl 3 Zg) fun v22 h=>?_;cases h)<;>refine xD 3 23 rfl ZK ?_<;>refine xD 4 24 rfl (Zd 2 ZT) ?_<;>(refine yD 5 25 rfl (Zl 2 Zg) fun v25 h=>?_;cases h)<;>refine xD 6 26 rfl (Zd 2 Z9) ?_<;>(refine yD 7 27 rfl (Zl 2 Zy) fun v27 h=>?_;cases h)<;>refine xD 8 28 rfl (Zd 3 Z2) ?_<;>(refine yD 9 29 rfl (Zl 3 Zy) fun v29 h=>?_;cases h)<;>refine xD 10 30 rfl Zb ?_<;>(refine YY 11 13 kR ?_ ?_;rotate_right;(focus ((refine Zm rfl fun w9 M9 N9 DQ back=>?_)<;>refine Zv [(.int .i64 0),(.int .i64 0),(.slice none 0 0),(.slice none 0 0),(.slice none 0 0)] 5 8 ZI fun h8=>?_<;>refine Zj (back _ (nrm ?_))<;>(refine Zp 11 kR ?_)<;>(refine Zm rfl fun w9 M9 N9 DQ back=>?_)<;>(refine cO 31 (cA call197 (Sf b.fin a.n oM oM (fun x hx=>by have:=hb.fi x hx;omega))) fun v31 ho31=>?_;refine Zu (En.freeze (l:=31) (t:=31) rfl rfl) fun _=>?_;rw [ZV _ _ _ rfl])<;>refine Zj (back _ (nrm ?_))<;>refine xE 12 32 rfl (ZO ZX) ?_<;>(refine Zp 14 kR ?_)<;>(refine Zm rfl fun w9 M9 N9 DQ back=>?_)<;>refine Zz 8 Zf ?_<;>refine Zj (back _ (nrm ?_))));rotate_right;(focus ((refine Zm rfl fun w9 M9 N9 DQ back=>?_)<;>(refine cO 31 (cA call197 (Sf b.fin a.n oM oM (fun x hx=>by have:=hb.fi x hx;omega))) fun v31 ho31=>?_;refine Zu (En.freeze (l:=31) (t:=31) rfl rfl) fun _=>?_;rw [ZV _ _ _ rfl])<;>refine Zj (back _ (nrm ?_))<;>refine xD 12 32 rfl (ZO ZX) ?_<;>(refine Zp 13 kR ?_)<;>(refine Zm rfl fun w9 M9 N9 DQ back=>?_)<;>refine Zv [(.int .i64 0),(.int .i64 0),(.slice none 0 0),(.slice none 0 0),(.slice none 0 0)] 5 8 ZI fun h8=>?_<;>refine Zj (back _ (nrm ?_))<;>(refine Zp 14 kR ?_)<;>(refine Zm rfl fun w9 M9 N9 DQ back=>?_)<;>refine Zz 8 Zf ?_<;>refine Zj (back _ (nrm ?_)))))<;>refine YC kR (nav ?_)<;>try dsimp only)<;>(
 exact WJ _ ⟨rfl,rfl,rfl,rfl,rfl,trivial⟩ ⟨rfl,rfl,rfl,rfl,trivial⟩)
   · rintro h8;skip
     refine Ze ?_;(refine xL 33 (Zd 8 ZS) ?_<;>(refine yL 34 (Zl 8 Zg) fun v34 h=>?_;cases h)<;>refine xL 35 Yz (xL 36 Zb ?_)<;>(refine bLd 36 (fun hb36=>?_) (fun hb36=>?_)<;>(first|refine kL 37 ?_|refine xL 37 (Zd 2 Zx) ?_))<;>(first|refine kL 38 ?_|(refine yL 38 (Zl 2 ZC) fun v38 h=>?_;cases h))<;>(first|refine kL 39 ?_|refine xL 39 (ZW ZL) ?_)<;>(first|refine kL 40 ?_|refine xL 40 (Zd 3 Zx) ?_)<;>(first|refine kL 41 ?_|(refine yL 41 (Zl 3 ZC) fun v41 h=>?_;cases h))<;>(first|refine kL 42 ?_|refine xL 42 (ZW ZL) ?_)<;>(first|refine kL 43 ?_|refine xL 43 ZK ?_)<;>(first|refine kL 44 ?_|refine xL 44 (Zd 2 Z2) ?_)<;>(first|refine kL 45 ?_|(refine yL 45 (Zl 2 Zy) fun v45 h=>?_;cases h))<;>(first|refine kL 46 ?_|refine xL 46 (ZW Zr) ?_)<;>(first|refine kL 47 ?_|refine xL 47 (Zd 3 Z9) ?_)<;>(first|refine kL 48 ?_|(refine yL 48 (Zl 3 Zy) fun v48 h=>?_;cases h))<;>(first|refine kL 49 ?_|refine xL 49 (ZW Zr) ?_)<;>(first|refine kL 50 ?_|refine xL 50 Jj ?_)<;>(first|refine kL 51 ?_|refine xL 51 ZK ?_)<;>(first|refine kL 52 ?_|refine xL 52 Yz ?_)<;>refine xL 53 ZG ?_<;>refine Zc ?_)<;>(
 refine cX ?_ ?_<;>intro hb53
 · first|exact bN hb53|(
 refine Ze ?_;((refine cP 54 (cA call194 (Gn)) fun va54 vb54 hva54 h=>?_;cases h)<;>refine xL 55 Zi (xL 56 Zi ?_)<;>refine Zz 4 Zf ?_<;>refine xL 5 Za ?_<;>refine Zc ?_)
 exact Z8 (k:=5) 4 kR (results144) rfl rfl rfl (Xa rfl) dC rfl (by rw [UU oM];rfl))
 · first | exact bN hb53|(
 refine nav ?_;have hnl:¬2000<a.n+b.n∧(Ku a b).moves.length≤20000:=oM;have hr:=hr hnl.2;refine Zq (WF (l:=8) [pInt (a.n+b.n),pInt a.syms,pInts a.start,pInts (Y5 a.n b.fin), .own 93 3 0 []] rfl rfl (fun i p p' h1 h2=>by
  match i with
  |0=>cases h1;cases h2;exact .inl rfl
  |1=>cases h1;cases h2;exact .inl rfl
  |2=>cases h1;cases h2;exact .inl rfl
  |3=>cases h1;cases h2;exact .inl rfl
  |4=>cases h1;cases h2;exact .inr ⟨rfl,_,_,rfl⟩
  |i+5=>simp at h2)) fun _=>?_
 refine Zq (We (l:=8) (l':=301) (j:=4) rfl rfl rfl rfl) fun i=>?_;obtain ⟨v301,ho301⟩:=i;dsimp only [List.set];(refine ZZ (fun i=>([11]:List Nat).elem i) [2,3,8] kR ?_<;>refine xD 0 57 rfl (Zd 8 Zx) ?_<;>(refine yD 1 58 rfl (Zl 8 ZC) fun v58 h=>?_;cases h)<;>refine xD 2 59 rfl (Zd 2 Zx) ?_<;>(refine yD 3 60 rfl (Zl 2 ZC) fun v60 h=>?_;cases h)<;>refine xD 5 62 rfl (Zd 3 Zx) ?_<;>(refine yD 6 63 rfl (Zl 3 ZC) fun v63 h=>?_;cases h)<;>refine xD 7 64 rfl Zb ?_<;>(refine Zp 4 kR ?_)<;>(refine Zm rfl fun w9 M9 N9 DQ back=>?_)<;>refine W2 301 61 ZU (fun h61 ho61=>?_) (TL a.moves) (L1 a.moves)<;>refine Zj (back _ (nrm ?_))<;>(refine Zp 8 kR ?_)<;>(refine Zm rfl fun w9 M9 N9 DQ back=>?_)<;>(refine cO 65 (cA call198 (CG b a.n hb.toAOk oM)) fun v65 ho65=>?_;refine Zu (En.freeze (l:=65) (t:=65) rfl rfl) fun _=>?_;rw [W7 _ _ _ rfl])<;>refine Zj (back _ (nrm ?_))<;>(refine Zp 9 kR ?_)<;>(refine Zm rfl fun w9 M9 N9 DQ back=>?_)<;>(refine W2 61 66 ZU (fun h66 ho66=>?_) (TL (KS a.n b.moves)) (L1 (KS a.n b.moves));have q66:En.one (PV.val h66)=true:=ho66)<;>refine Zj (back _ (nrm ?_))<;>refine xE 10 67 rfl (Zd 8 Zx) ?_<;>(refine Zp 11 kR ?_)<;>(refine Kb rfl rfl kR fun DQ back=>?_)<;>refine YQ 8 ZC YK ?_<;>refine Zj (back _ (nav ?_))<;>try dsimp only)
 refine Zq (ZF (l:=66) (p':= .own 93 3 (bsM a b).length ((bsM a b).flatMap cMv)) rfl (by (try rw [Xw]);(try rw [XW]);rw [←XM,←Xb];rfl)) fun _=>?_;refine Zq (Z7 (l:=8) (l':=66) (j:=4) rfl rfl rfl rfl) fun _=>?_;rw [W7 _ _ _ rfl];refine Zq (ZF (l:=8) (p':= .own 39 5 1 [pInt (a.n+b.n),pInt a.syms,pInts a.start,pInts (Y5 a.n b.fin),pMvs (mkM (ctM a b 0))]) rfl (by rw [Cx,show mkM (bsM a b)=bsM a b from ZfE (Zdy ha hb)];rfl)) fun _=>?_;(refine Zt ?_<;>refine xL 9 Za ?_<;>refine Zc ?_)
 refine ZE (ι:={k:Nat//k≤a.fin.length}) (fun k=>⟨[(2,_,_),(3,_,_),(4,_,_),(7,_,_),(8,_,_),(9, .int .i64 k.1,pInt k.1)],[(2,_,_),(3,_,_),(4,_,_),(8,h8, .own 39 5 1 [pInt (a.n+b.n),pInt a.syms,pInts a.start,pInts (Y5 a.n b.fin),pMvs (mkM (ctM a b k.1))])]⟩) (fun k=>a.fin.length-k.1) ⟨0,Xd _⟩ (fun a w H=>H.weaken ⟨rfl,rfl,rfl,rfl,rfl,rfl,trivial⟩ ⟨rfl,rfl,rfl,rfl,trivial⟩) ?_;rintro ⟨i,hi⟩;dsimp only;refine Ze ?_;(refine xL 68 Zb (xL 69 (Zd 2 Z2) ?_)<;>(refine yL 70 (Zl 2 Zy) fun v70 h=>?_;cases h)<;>refine xL 71 (ZW Zr) (xL 72 ZQ ?_)<;>refine Zc ?_)
 refine cX ?_ ?_<;>intro hb72
 · first |exact bN hb72|(
 obtain ⟨f,hf⟩:=Zw (show i<a.fin.length by omega);have e1:=Yb (f:=pInt) hf;have hfin:=ha.fi f (Xc hf);refine Ze ?_;(refine xL 10 Za ?_<;>refine Zc ?_)
 refine Zq (ZF (l:=8) (p':= .own 39 5 1 [pInt (a.n+b.n),pInt a.syms,pInts a.start,pInts (Y5 a.n b.fin),pMvs (mkM (ctM a b i++J8 a.n f (b.start.take 0)))]) rfl (by rw [show J8 a.n f (b.start.take 0)=[] from rfl,Xr])) fun _=>?_;refine ZE (ι:={k:Nat//k≤b.start.length}) (fun k=>⟨[(2,_,_),(3,_,_),(4,_,_),(7,_,_),(8,_,_),(9,_,_),(10, .int .i64 k.1,pInt k.1)],[(2,_,_),(3,_,_),(4,_,_),(8,h8, .own 39 5 1 [pInt (a.n+b.n),pInt a.syms,pInts a.start,pInts (Y5 a.n b.fin),pMvs (mkM (ctM a b i++J8 a.n f (b.start.take k.1)))])]⟩) (fun k=>b.start.length-k.1) ⟨0,Xd _⟩ (fun a w H=>H.weaken ⟨rfl,rfl,rfl,rfl,rfl,rfl,rfl,trivial⟩ ⟨rfl,rfl,rfl,rfl,trivial⟩) ?_;rintro ⟨j,hj⟩;dsimp only;refine Ze ?_;(refine xL 75 Zb (xL 76 (Zd 3 Z9) ?_)<;>(refine yL 77 (Zl 3 Zy) fun v77 h=>?_;cases h)<;>refine xL 78 (ZW Zr) (xL 79 ZQ ?_)<;>refine Zc ?_)
 refine cX ?_ ?_<;>intro hb79
 · first|exact bN hb79|(
 obtain ⟨s,hs⟩:=Zw (show j<b.start.length by omega);have e2:=Yb (f:=pInt) hs;have hsin:=hb.st s (Xc hs);have hpart:=ZgT f (Zh hf) hj;have hins:AF prog 133 [pMvs (mkM (ctM a b i++J8 a.n f (b.start.take j))), .agg (cMv ⟨f,a.n+s,-1⟩)] (· =pMvs (mkM (ctM a b i++J8 a.n f (b.start.take (j+1))))):=by
  have h1:=GR (mkM (ctM a b i++J8 a.n f (b.start.take j))) ⟨f,a.n+s,-1⟩ (XN (Gz _) oM) (Kl _);rw [Zbs,Xu,Int.add_comm a.n s,←Da a.n f hs] at h1;rw [Int.add_comm a.n s];exact h1
 refine nav ?_;(refine ZZ (fun i=>([17]:List Nat).elem i) [2,3,8] kR ?_<;>refine xD 0 82 rfl (Zd 8 Zx) ?_<;>(refine yD 1 83 rfl (Zl 8 ZC) fun v83 h=>?_;cases h)<;>refine xD 2 84 rfl (Zd 2 Z2) ?_<;>(refine yD 3 85 rfl (Zl 2 Zy) fun v85 h=>?_;cases h)<;>refine xD 4 86 rfl Zb ?_<;>refine xD 5 87 rfl (ZH Zr) ?_<;>(refine yD 6 88 rfl (Ya Zg) fun v88 h=>?_;cases h)<;>refine xD 7 89 rfl Zb ?_<;>refine xD 8 90 rfl (Zd 3 Z9) ?_<;>(refine yD 9 91 rfl (Zl 3 Zy) fun v91 h=>?_;cases h)<;>refine xE 10 92 rfl Zb ?_<;>refine xE 11 93 rfl (ZH Zr) ?_<;>(refine yE 12 94 rfl (Ya Zg) fun v94 h=>?_;cases h)<;>refine xE 13 95 rfl ZK ?_<;>refine xE 14 96 rfl (ZO YW) ?_<;>(refine Zp 15 kR ?_)<;>(refine Zm rfl fun w9 M9 N9 DQ back=>?_)<;>(refine cS 97 (cA call133 (hins)) fun v97 h=>?_;cases h)<;>refine Zj (back _ (nrm ?_))<;>refine xE 16 98 rfl (Zd 8 Zx) ?_<;>(refine Zp 17 kR ?_)<;>(refine Kb rfl rfl kR fun DQ back=>?_)<;>refine YQ 8 ZC YK ?_<;>refine Zj (back _ (nav ?_))<;>try dsimp only)
 (refine Zt ?_<;>refine xL 80 Zb (xL 81 ZK (xL 10 Za ?_))<;>refine Zc ?_)
 refine Zn (
  ⟨j+1,Zh hs⟩
  ) (by dsimp only;omega) ⟨rfl,rfl,rfl,rfl,rfl,rfl,rfl,trivial⟩ ⟨rfl,rfl,rfl,rfl,trivial⟩)
 · first|exact bN hb79|(
 refine Zq (ZF (l:=8) (p':= .own 39 5 1 [pInt (a.n+b.n),pInt a.syms,pInts a.start,pInts (Y5 a.n b.fin),pMvs (mkM (ctM a b (i+1)))]) rfl (by rw [show ctM a b i++J8 a.n f (b.start.take j)=ctM a b (i+1) by rw [Xj (show b.start.length≤j by omega),ZdS hf]])) fun _=>?_;refine Ze ?_;(refine xL 73 Zb (xL 74 ZK (xL 9 Za ?_))<;>refine Zc ?_)
 refine Zn (
  ⟨i+1,Zh hf⟩
  ) (by dsimp only;omega) ⟨rfl,rfl,rfl,rfl,rfl,rfl,trivial⟩ ⟨rfl,rfl,rfl,rfl,trivial⟩))
 · first|exact bN hb72|(
 rw [ZgS a b (show a.fin.length≤i by omega)];refine Ze ?_;((refine yL 99 (Zs 8 Zf) fun v99 h=>?_;cases h)<;>(refine cP 100 (cA call199 hr) (fun va100 vb100 hva100 hvb100=>?_) (hsh:=r5.t E);cases hvb100)<;>refine xL 101 Zi (xL 102 Zi ?_)<;>refine Zz 4 Zf ?_<;>refine xL 5 Za ?_<;>refine Zc ?_)
 exact Z8 (k:=5) 4 kR (results144) rfl rfl rfl (Xa rfl) dC r5.s (by rw [UT oM];rfl))))
theorem Rh (a b:Aut) (hla:a.moves.length≤1000000) (hlb:b.moves.length≤1000000):AF prog 144 [ZJ a,ZJ b] (· =resW (GK a b)):=by
 unfold GK
 by_cases h0:Wt a b=0
 · rw [UT (fun h=>h h0)];obtain ⟨ha,hb,hs⟩:=Jv h0;rw [Zdz ha hb hs];obtain ⟨p0,p1,p2,p3,p4,E,h5,h2⟩:=Zg0 (G0 (mkA (Ku a b)));refine (Zeo a b hla hlb h0 h5 (E:=E) fun hl=>?_).mono fun p hp=>?_
   · have hr:=Ta (mkA (Ku a b)) (XN (Gz _) oM);rw [h2] at hr;exact hr
   · rw [hp];split
     · rename_i h;rw [Zaa ha hb (by rw [←Ov];exact h)];rfl
     · exact h2.symm
 · rw [UU h0];exact ζb a b _ h0 (Gs a b hla hlb)
theorem Znj (e:Nat) (l m:List Mv):PV.own e 3 (l.length+m.length) (l.flatMap cMv++m.flatMap cMv)= .own e 3 (l++m).length ((l++m).flatMap cMv):=by rw [Xb,XM]
theorem TM (m:Int) (l k:List Int) (i j:Nat):Jp m l k i (j+1)=Jp m l k i j++LH m l k i j:=flat_snoc _ _
theorem Dv (m:Int) (l k:List Int) (i:Nat):KL m l k (i+1)=KL m l k i++Jp m l k i m.toNat:=flat_snoc _ _
theorem ZaF (a b:Aut) (i j:Nat):LG a b i (j+1)=LG a b i j++Hu a b i j:=flat_snoc _ _
theorem ZaG (a b:Aut) (i:Nat):Gp a b (i+1)=Gp a b i++LG a b i b.n.toNat:=flat_snoc _ _
theorem OK (m:Int) (l k:List Int) (i:Nat):∀j,(Jp m l k i j).length≤j
 |0=>Xh _
 | j+1=>by
   have h:=OK m l k i j;rw [TM,Xb];have:(LH m l k i j).length≤1:=by unfold LH;split<;>simp
   omega
theorem CH (m:Int) (l k:List Int):∀i,(KL m l k i).length≤i*m.toNat
 |0=>Xd _
 | i+1=>by
   have h:=CH m l k i;have h2:=OK m l k i m.toNat;rw [Dv,Xb,X6];omega
theorem Zep {m:Int} {l k:List Int} {i j:Nat} (h1:LP l (i:Nat)=true) (h2:LP k (j:Nat)=true):LH m l k i j=[(i:Nat)*m+(j:Nat)]:=by unfold LH;rw [h1,h2];rfl
theorem Zeq {m:Int} {l k:List Int} {i j:Nat} (h1:LP l (i:Nat)=false):LH m l k i j=[]:=by unfold LH;rw [h1];rfl
theorem Zer {m:Int} {l k:List Int} {i j:Nat} (h1:LP k (j:Nat)=false):LH m l k i j=[]:=by unfold LH;rw [h1,Bool.and_false];rfl
theorem Zll (a b:Aut) (i j:Nat):(Hu a b i j).length≤a.moves.length+b.moves.length:=by
 unfold Hu
 refine XN (Gz _) ?_
 unfold apA apB
 rw [Xb,Xe,Xe]
 exact Nat.add_le_add (Vg _ _) (Vg _ _)
theorem CI (a b:Aut) (e:Int) (he:¬e=0) (hf:AF prog 196 [ZJ a,ZJ b] (· =pInt e)):AF prog 147 [ZJ a,ZJ b] (· = .tup [KR,pInt e]):=by
 refine AF.of_body 182 func147 rfl ntmps147 (Xa rfl) ?_
 intro w0 M0 vs hl hv
 obtain ⟨v0,v1,rfl⟩:=YX hl
 clear hl hv
 refine Ze ?_
 (refine ZB 2 5 fun h2=>?_<;>refine ZB 3 5 fun h3=>?_<;>refine Zv [(.int .i64 0),(.int .i64 0),(.slice none 0 0),(.slice none 0 0),(.slice none 0 0)] 5 4 ZI fun h4=>?_<;>refine xL 5 Za ?_<;>refine Zk ?_)
 ((refine yL 14 (Zs 2 Zf) fun v14 h=>?_;cases h)<;>(refine yL 15 (Zs 3 Zf) fun v15 h=>?_;cases h)<;>(refine cS 16 (cA call196 (hf)) fun v16 h=>?_;cases h)<;>refine xL 6 Za ?_<;>refine Zk ?_)
 (refine xL 17 Zb (xL 18 Yn ?_)<;>refine Zc ?_)
 refine cX ?_ ?_<;>intro hb18
 · refine Ze ?_;(refine xL 19 (ZO ZX) (xL 20 Zb ?_)<;>refine Zz 4 Zf ?_<;>refine xL 5 Za ?_<;>refine Zc ?_)
   exact Z8 (k:=5) 4 kR (results147) rfl rfl rfl (Xa rfl) dC rfl rfl
 · exact UV (by simpa using hb18) he
set_option maxHeartbeats 8000000 in
theorem ZbR (a b : Aut) (hla : a.moves.length≤1000000) (hlb:b.moves.length≤1000000) (hf0:Wt a b=0) {p0 p1 p2 p3 p4:PV} {E:Int} (r5:R5 p0 p1 p2 p3 p4) (hr:(mkM (Wr a b).moves).length≤20000→AF prog 199 [ZJ (mkA (Wr a b))] (· = .tup [.agg [p0,p1,p2,p3,p4],pInt E])):AF prog 147 [ZJ a,ZJ b] (· =if 2000<a.n*b.n∨20000<(mkM (Wr a b).moves).length then .tup [KR,pInt 13] else .tup [.agg [p0,p1,p2,p3,p4],pInt E]):=by
 obtain ⟨o0,o1,o2,o3,o4⟩:=r5.o
 obtain ⟨ha,hb,hs⟩:=Jv hf0
 have hf:=Gs a b hla hlb
 rw [hf0] at hf
 have hn0:=ha.n0
 have hn1:=ha.n1
 have m0:=hb.n0
 have m1:=hb.n1
 have k5:=ha.ml
 have k6:=hb.ml
 have q1:=LK (x:=a.n) (y:=b.n) ⟨hn0,hn1⟩ ⟨m0,m1⟩
 have eN:((a.n.toNat:Nat):Int)=a.n:=X4 hn0
 have eM:((b.n.toNat:Nat):Int)=b.n:=X4 m0
 have hall:=ZmF ha hb
 refine AF.of_body 182 func147 rfl ntmps147 (Xa rfl) ?_
 intro w0 M0 vs hl hv
 obtain ⟨v0,v1,rfl⟩:=YX hl
 clear hl hv
 refine Ze ?_
 (refine ZB 2 5 fun h2=>?_<;>refine ZB 3 5 fun h3=>?_<;>refine Zv [(.int .i64 0),(.int .i64 0),(.slice none 0 0),(.slice none 0 0),(.slice none 0 0)] 5 4 ZI fun h4=>?_<;>refine xL 5 Za ?_<;>refine Zk ?_)
 ((refine yL 14 (Zs 2 Zf) fun v14 h=>?_;cases h)<;>(refine yL 15 (Zs 3 Zf) fun v15 h=>?_;cases h)<;>(refine cS 16 (cA call196 (hf)) fun v16 h=>?_;cases h)<;>refine xL 6 Za ?_<;>refine Zk ?_)
 (refine xL 17 Zb (xL 18 Yn ?_)<;>refine Zc ?_)
 refine cX ?_ ?_<;>intro hb18
 · first|omega|exact UV rfl hb18|exact bN hb18
 · refine Ze ?_;(refine xL 21 (Zd 3 ZS) ?_<;>(refine yL 22 (Zl 3 Zg) fun v22 h=>?_;cases h)<;>refine xL 7 Za ?_<;>refine Zk ?_)
   (refine xL 23 (Zd 2 ZS) ?_<;>(refine yL 24 (Zl 2 Zg) fun v24 h=>?_;cases h)<;>refine xL 25 Zb (xL 26 Jj (xL 27 (Zd 2 ZT) ?_))<;>(refine yL 28 (Zl 2 Zg) fun v28 h=>?_;cases h)<;>refine xL 29 (ZO ZX) ?_<;>refine Zv [(.int .i64 0),(.int .i64 0),(.slice none 0 0),(.slice none 0 0),(.slice none 0 0)] 5 8 ZI fun h8=>?_<;>refine Zz 8 Zf ?_<;>refine Zk ?_)
   (refine xL 30 (Zd 8 ZS) ?_<;>(refine yL 31 (Zl 8 Zg) fun v31 h=>?_;cases h)<;>refine xL 32 Yz ?_<;>refine Zc ?_)
   refine cX ?_ ?_<;>intro hb32
   · first|exact bN hb32|(
 refine Ze ?_;((refine cP 33 (cA call194 (Gn)) fun va33 vb33 hva33 h=>?_;cases h)<;>refine xL 34 Zi (xL 35 Zi ?_)<;>refine Zz 4 Zf ?_<;>refine xL 5 Za ?_<;>refine Zc ?_)
 exact Z8 (k:=5) 4 kR (results147) rfl rfl rfl (Xa rfl) dC rfl (by rw [UU oM];rfl))
   · first | exact bN hb32 | (
 refine nav ?_;refine Zq (WF (l:=8) [pInt (a.n*b.n),pInt a.syms, .own 3 1 0 [], .own 3 1 0 [], .own 93 3 0 []] rfl rfl (fun i p p' h1 h2=>by
  match i with
  |0=>cases h1;cases h2;exact .inl rfl
  |1=>cases h1;cases h2;exact .inl rfl
  |2=>cases h1;cases h2;exact .inr ⟨rfl,_,_,rfl⟩
  |3=>cases h1;cases h2;exact .inr ⟨rfl,_,_,rfl⟩
  |4=>cases h1;cases h2;exact .inr ⟨rfl,_,_,rfl⟩
  |i+5=>simp at h2)) fun _=>?_
 refine Zq (We (l:=8) (l':=302) (j:=2) rfl rfl rfl rfl) fun i=>?_;obtain ⟨v302,ho302⟩:=i;dsimp only [List.set];refine Zq (We (l:=8) (l':=303) (j:=3) rfl rfl rfl rfl) fun i=>?_;obtain ⟨v303,ho303⟩:=i;dsimp only [List.set];refine Zq (We (l:=8) (l':=304) (j:=4) rfl rfl rfl rfl) fun i=>?_;obtain ⟨v304,ho304⟩:=i;dsimp only [List.set];(refine Zt ?_<;>refine xL 9 Za ?_<;>refine Zc ?_)
 refine ZE (ι:={q:Nat×Value×Value×Value//q.1≤a.n.toNat∧q.2.1.oneCell'=true∧q.2.2.1.oneCell'=true∧q.2.2.2.oneCell'=true∧(Gp a b q.1).length≤20000}) (fun k=>⟨[(2,_,_),(3,_,_),(4,_,_),(7,_,_),(8,_,_),(9, .int .i64 k.1.1,pInt k.1.1)],[(2,_,_),(3,_,_),(4,_,_),(8,h8, .own 39 5 1 [pInt (a.n*b.n),pInt a.syms, .val k.1.2.1, .val k.1.2.2.1, .val k.1.2.2.2]),(302,k.1.2.1, .own 3 1 (KL b.n a.start b.start k.1.1).length ((KL b.n a.start b.start k.1.1).map pInt)),(303,k.1.2.2.1, .own 3 1 (KL b.n a.fin b.fin k.1.1).length ((KL b.n a.fin b.fin k.1.1).map pInt)),(304,k.1.2.2.2, .own 93 3 (Gp a b k.1.1).length ((Gp a b k.1.1).flatMap cMv))]⟩) (fun k=>a.n.toNat-k.1.1) ⟨(0,v302,v303,v304),Xd _,ho302,ho303,ho304,Xd _⟩ (fun a w H=>H.weaken ⟨rfl,rfl,rfl,rfl,rfl,rfl,trivial⟩ ⟨rfl,rfl,rfl,rfl,rfl,rfl,rfl,trivial⟩) ?_;rintro ⟨⟨i,hS,hF,hM⟩,hi,hSo,hFo,hMo,hMl⟩;dsimp only;dsimp only at hi hSo hFo hMo hMl;have hx3:=LK (x:=(i:Int)) (y:=b.n) (X:=2000) ⟨oM,oM⟩ ⟨m0,m1⟩;have hi2:i*b.n.toNat≤2000*2000:=Vw oM oM;have hl1:=CH b.n a.start b.start i;have hl2:=CH b.n a.fin b.fin i;refine Ze ?_;(refine xL 36 Zb (xL 37 (Zd 2 ZS) ?_)<;>(refine yL 38 (Zl 2 Zg) fun v38 h=>?_;cases h)<;>refine xL 39 ZQ ?_<;>refine Zc ?_)
 refine cX ?_ ?_<;>intro hb39
 · first | exact bN hb39 | (
 have hilt:i<a.n.toNat:=oM;refine Ze ?_;(refine xL 10 Za ?_<;>refine Zc ?_)
 refine Zq (ZF (l:=302) (p':= .own 3 1 (KL b.n a.start b.start i++Jp b.n a.start b.start i 0).length ((KL b.n a.start b.start i++Jp b.n a.start b.start i 0).map pInt)) rfl (by rw [show Jp b.n a.start b.start i 0=[] from rfl,Xr])) fun _=>?_;refine Zq (ZF (l:=303) (p':= .own 3 1 (KL b.n a.fin b.fin i++Jp b.n a.fin b.fin i 0).length ((KL b.n a.fin b.fin i++Jp b.n a.fin b.fin i 0).map pInt)) rfl (by rw [show Jp b.n a.fin b.fin i 0=[] from rfl,Xr])) fun _=>?_;refine Zq (ZF (l:=304) (p':= .own 93 3 (Gp a b i++LG a b i 0).length ((Gp a b i++LG a b i 0).flatMap cMv)) rfl (by rw [show LG a b i 0=[] from rfl,Xr])) fun _=>?_;refine ZE (ι:={q:Nat×Value×Value×Value//q.1≤b.n.toNat∧q.2.1.oneCell'=true∧q.2.2.1.oneCell'=true∧q.2.2.2.oneCell'=true∧(Gp a b i++LG a b i q.1).length≤20000}) (fun k=>⟨[(2,_,_),(3,_,_),(4,_,_),(7,_,_),(8,_,_),(9,_,_),(10, .int .i64 k.1.1,pInt k.1.1)],[(2,_,_),(3,_,_),(4,_,_),(8,h8, .own 39 5 1 [pInt (a.n*b.n),pInt a.syms, .val k.1.2.1, .val k.1.2.2.1, .val k.1.2.2.2]),(302,k.1.2.1, .own 3 1 (KL b.n a.start b.start i++Jp b.n a.start b.start i k.1.1).length ((KL b.n a.start b.start i++Jp b.n a.start b.start i k.1.1).map pInt)),(303,k.1.2.2.1, .own 3 1 (KL b.n a.fin b.fin i++Jp b.n a.fin b.fin i k.1.1).length ((KL b.n a.fin b.fin i++Jp b.n a.fin b.fin i k.1.1).map pInt)),(304,k.1.2.2.2, .own 93 3 (Gp a b i++LG a b i k.1.1).length ((Gp a b i++LG a b i k.1.1).flatMap cMv))]⟩) (fun k=>b.n.toNat-k.1.1) ⟨(0,hS,hF,hM),Xd _,hSo,hFo,hMo,by show (Gp a b i++[]).length≤20000;rw [Xr];exact hMl⟩ (fun a w H=>H.weaken ⟨rfl,rfl,rfl,rfl,rfl,rfl,rfl,trivial⟩ ⟨rfl,rfl,rfl,rfl,rfl,rfl,rfl,trivial⟩) ?_;rintro ⟨⟨j,hS2,hF2,hM2⟩,hj,hS2o,hF2o,hM2o,hM2l⟩;dsimp only;dsimp only at hj hS2o hF2o hM2o hM2l;have qS2:En.one (PV.val hS2)=true:=hS2o;have qF2:En.one (PV.val hF2)=true:=hF2o;have qM2:En.one (PV.val hM2)=true:=hM2o;have hl3:=OK b.n a.start b.start i j;have hl4:=OK b.n a.fin b.fin i j;(have hl5:(KL b.n a.start b.start i++Jp b.n a.start b.start i j).length≤4002000:=by rw [Xb];omega);(have hl6:(KL b.n a.fin b.fin i++Jp b.n a.fin b.fin i j).length≤4002000:=by rw [Xb];omega);refine Ze ?_;(refine xL 42 Zb (xL 43 Zb (xL 44 ZQ ?_))<;>refine Zc ?_)
 refine cX ?_ ?_<;>intro hb44
 · first | exact bN hb44 |(
 have hjlt:j<b.n.toNat:=oM;refine Ze ?_;(refine xL 47 (Zd 2 Z9) ?_<;>(refine yL 48 (Zl 2 Zy) fun v48 h=>?_;cases h)<;>refine xL 49 Zb ?_<;>(refine cS 50 (cA call116 (TA a.start (i:Nat))) fun v50 h=>?_;cases h)<;>refine xL 51 Zb ?_<;>(refine bL 51 (fun hb51=>?_) (fun hb51=>?_)<;>(first|refine kL 52 ?_|refine xL 52 (Zd 3 Z9) ?_))<;>(first|refine kL 53 ?_|(refine yL 53 (Zl 3 Zy) fun v53 h=>?_;cases h))<;>(first|refine kL 54 ?_|refine xL 54 Zb ?_)<;>(first|refine kL 55 ?_|(refine cS 55 (cA call116 (TA b.start (j:Nat))) fun v55 h=>?_;cases h))<;>refine xL 56 ZG ?_<;>refine Zc ?_)<;>(
 refine Pe (fun x:{x:Value//x.oneCell'=true}=>⟨[(2,padd (sbase h2) 0, .val (padd (sbase h2) 0)),(3,padd (sbase h3) 0, .val (padd (sbase h3) 0)),(4,padd (sbase h4) 0, .val (padd (sbase h4) 0)),(7, .int .i64 b.n,pInt b.n),(8,padd (sbase h8) 0, .val (padd (sbase h8) 0)),(9, .int .i64 (i:Nat),pInt (i:Nat)),(10, .int .i64 (j:Nat),pInt (j:Nat))],[(2,h2, .own 39 5 1 [pInt a.n,pInt a.syms,pInts a.start,pInts a.fin,pMvs a.moves]),(3,h3, .own 39 5 1 [pInt b.n,pInt b.syms,pInts b.start,pInts b.fin,pMvs b.moves]),(4,h4, .own 39 5 1 [pInt 0,pInt 0, .val (.slice none 0 0), .val (.slice none 0 0), .val (.slice none 0 0)]),(8,h8, .own 39 5 1 [pInt (a.n*b.n),pInt a.syms, .val x.1, .val hF2, .val hM2]),(302,x.1, .own 3 1 (KL b.n a.start b.start i++Jp b.n a.start b.start i (j+1)).length ((KL b.n a.start b.start i++Jp b.n a.start b.start i (j+1)).map pInt)),(303,hF2, .own 3 1 (KL b.n a.fin b.fin i++Jp b.n a.fin b.fin i j).length ((KL b.n a.fin b.fin i++Jp b.n a.fin b.fin i j).map pInt)),(304,hM2, .own 93 3 (Gp a b i++LG a b i j).length ((Gp a b i++LG a b i j).flatMap cMv))]⟩) ?_ ?_
 · refine cX ?_ ?_<;>intro hb56
   · first|exact bN hb56|(
 have hc:=Zep (m:=b.n) (l:=a.start) (k:=b.start) (i:=i) (j:=j) (by first|assumption|simpa using hb51) (by first|assumption|simpa using hb56);refine Ze ?_;(refine xL 57 (Zd 8 Z9) ?_<;>(refine yL 58 (Zl 8 Zy) fun v58 h=>?_;cases h)<;>refine xL 59 Zb (xL 60 Zb (xL 61 Jj (xL 62 Zb (xL 63 ZK ?_))))<;>refine ZM (kk:=1) 64 Zo fun h64 ho64=>?_<;>(refine ZY 302 64 65 Zo fun h65 ho65=>?_;refine Zu (ZD (l:=65) 302 rfl rfl) fun _=>?_;refine Zu (ZF (l:=302) rfl ((K5 _ (KL b.n a.start b.start i++Jp b.n a.start b.start i j) ((i:Nat)*b.n+(j:Nat))).trans (by rw [Xu,←hc,←TM]))) fun _=>?_;have q65:En.one (PV.val h65)=true:=ho65)<;>refine xL 66 (Zd 8 Z9) ?_<;>refine YQ 8 Zy Wo ?_<;>refine Zc ?_)
 first
  |exact WJ ⟨h65,ho65⟩ ⟨rfl,rfl,rfl,rfl,rfl,rfl,rfl,trivial⟩ ⟨rfl,rfl,rfl,rfl,rfl,rfl,rfl,trivial⟩
  |exact WJ ⟨hS2,hS2o⟩ ⟨rfl,rfl,rfl,rfl,rfl,rfl,rfl,trivial⟩ ⟨rfl,rfl,rfl,rfl,rfl,rfl,rfl,trivial⟩)
   · first|exact bN hb56|(
 have hc:LH b.n a.start b.start i j=[]:=by
  first
   |exact Zeq (by first|assumption|simpa using hb51)
   |exact Zer (by first|assumption|simpa using hb56)
 refine Zq (ZF (l:=302) (p':= .own 3 1 (KL b.n a.start b.start i++Jp b.n a.start b.start i (j+1)).length ((KL b.n a.start b.start i++Jp b.n a.start b.start i (j+1)).map pInt)) rfl (by rw [TM,hc,Xr])) fun _=>?_;refine nav ?_
 first
  |exact WJ ⟨h65,ho65⟩ ⟨rfl,rfl,rfl,rfl,rfl,rfl,rfl,trivial⟩ ⟨rfl,rfl,rfl,rfl,rfl,rfl,rfl,trivial⟩
  |exact WJ ⟨hS2,hS2o⟩ ⟨rfl,rfl,rfl,rfl,rfl,rfl,rfl,trivial⟩ ⟨rfl,rfl,rfl,rfl,rfl,rfl,rfl,trivial⟩)
 · rintro ⟨hS3, hS3o⟩;dsimp only at hS3o ⊢;have qS3:En.one (PV.val hS3)=true:=hS3o;refine Ze ?_;(refine xL 67 (Zd 2 Z2) ?_<;>(refine yL 68 (Zl 2 Zy) fun v68 h=>?_;cases h)<;>refine xL 69 Zb ?_<;>(refine cS 70 (cA call116 (TA a.fin (i:Nat))) fun v70 h=>?_;cases h)<;>refine xL 71 Zb ?_<;>(refine bL 71 (fun hb71=>?_) (fun hb71=>?_)<;>(first|refine kL 72 ?_|refine xL 72 (Zd 3 Z2) ?_))<;>(first|refine kL 73 ?_|(refine yL 73 (Zl 3 Zy) fun v73 h=>?_;cases h))<;>(first|refine kL 74 ?_|refine xL 74 Zb ?_)<;>(first|refine kL 75 ?_|(refine cS 75 (cA call116 (TA b.fin (j:Nat))) fun v75 h=>?_;cases h))<;>refine xL 76 ZG ?_<;>refine Zc ?_)<;>(
 refine Pe (fun x:{x:Value//x.oneCell'=true}=>⟨[(2,padd (sbase h2) 0, .val (padd (sbase h2) 0)),(3,padd (sbase h3) 0, .val (padd (sbase h3) 0)),(4,padd (sbase h4) 0, .val (padd (sbase h4) 0)),(7, .int .i64 b.n,pInt b.n),(8,padd (sbase h8) 0, .val (padd (sbase h8) 0)),(9, .int .i64 (i:Nat),pInt (i:Nat)),(10, .int .i64 (j:Nat),pInt (j:Nat))],[(2,h2, .own 39 5 1 [pInt a.n,pInt a.syms,pInts a.start,pInts a.fin,pMvs a.moves]),(3,h3, .own 39 5 1 [pInt b.n,pInt b.syms,pInts b.start,pInts b.fin,pMvs b.moves]),(4,h4, .own 39 5 1 [pInt 0,pInt 0, .val (.slice none 0 0), .val (.slice none 0 0), .val (.slice none 0 0)]),(8,h8, .own 39 5 1 [pInt (a.n*b.n),pInt a.syms, .val hS3, .val x.1, .val hM2]),(302,hS3, .own 3 1 (KL b.n a.start b.start i++Jp b.n a.start b.start i (j+1)).length ((KL b.n a.start b.start i++Jp b.n a.start b.start i (j+1)).map pInt)),(303,x.1, .own 3 1 (KL b.n a.fin b.fin i++Jp b.n a.fin b.fin i (j+1)).length ((KL b.n a.fin b.fin i++Jp b.n a.fin b.fin i (j+1)).map pInt)),(304,hM2, .own 93 3 (Gp a b i++LG a b i j).length ((Gp a b i++LG a b i j).flatMap cMv))]⟩) ?_ ?_
 · refine cX ?_ ?_<;>intro hb76
   · first|exact bN hb76|(
 have hc:=Zep (m:=b.n) (l:=a.fin) (k:=b.fin) (i:=i) (j:=j) (by first|assumption|simpa using hb71) (by first|assumption|simpa using hb76);refine Ze ?_;(refine xL 77 (Zd 8 Z2) ?_<;>(refine yL 78 (Zl 8 Zy) fun v78 h=>?_;cases h)<;>refine xL 79 Zb (xL 80 Zb (xL 81 Jj (xL 82 Zb (xL 83 ZK ?_))))<;>refine ZM (kk:=1) 84 Zo fun h84 ho84=>?_<;>(refine ZY 303 84 85 Zo fun h85 ho85=>?_;refine Zu (ZD (l:=85) 303 rfl rfl) fun _=>?_;refine Zu (ZF (l:=303) rfl ((K5 _ (KL b.n a.fin b.fin i++Jp b.n a.fin b.fin i j) ((i:Nat)*b.n+(j:Nat))).trans (by rw [Xu,←hc,←TM]))) fun _=>?_;have q85:En.one (PV.val h85)=true:=ho85)<;>refine xL 86 (Zd 8 Z2) ?_<;>refine YQ 8 Zy Wo ?_<;>refine Zc ?_)
 first
  |exact WJ ⟨h85,ho85⟩ ⟨rfl,rfl,rfl,rfl,rfl,rfl,rfl,trivial⟩ ⟨rfl,rfl,rfl,rfl,rfl,rfl,rfl,trivial⟩
  |exact WJ ⟨hF2,hF2o⟩ ⟨rfl,rfl,rfl,rfl,rfl,rfl,rfl,trivial⟩ ⟨rfl,rfl,rfl,rfl,rfl,rfl,rfl,trivial⟩)
   · first|exact bN hb76|(
 have hc:LH b.n a.fin b.fin i j=[]:=by
  first
   |exact Zeq (by first|assumption|simpa using hb71)
   |exact Zer (by first|assumption|simpa using hb76)
 refine Zq (ZF (l:=303) (p':= .own 3 1 (KL b.n a.fin b.fin i++Jp b.n a.fin b.fin i (j+1)).length ((KL b.n a.fin b.fin i++Jp b.n a.fin b.fin i (j+1)).map pInt)) rfl (by rw [TM,hc,Xr])) fun _=>?_;refine nav ?_
 first
  |exact WJ ⟨h85,ho85⟩ ⟨rfl,rfl,rfl,rfl,rfl,rfl,rfl,trivial⟩ ⟨rfl,rfl,rfl,rfl,rfl,rfl,rfl,trivial⟩
  |exact WJ ⟨hF2,hF2o⟩ ⟨rfl,rfl,rfl,rfl,rfl,rfl,rfl,trivial⟩ ⟨rfl,rfl,rfl,rfl,rfl,rfl,rfl,trivial⟩)
 · rintro ⟨hF3, hF3o⟩;dsimp only at hF3o ⊢;have qF3:En.one (PV.val hF3)=true:=hF3o;refine Ze ?_;(refine J0 87 ZU fun h87 ho87=>?_<;>refine xL 11 Za ?_<;>refine Zc ?_)
   refine Zq (En.freeze (l:=87) (t:=11) rfl rfl) fun _=>?_;refine Zq (Wg (t:=11) (p':=pMvs (mkM (apA b.n i j (a.moves.take 0)))) rfl rfl) fun _=>?_;(refine Zt ?_<;>refine xL 12 Za ?_<;>refine Zc ?_)
   refine ZE (ι:={q:Nat×Value//q.1≤a.moves.length}) (fun k=>⟨[(2,_,_),(3,_,_),(4,_,_),(7,_,_),(8,_,_),(9,_,_),(10,_,_),(11,k.1.2,pMvs (mkM (apA b.n i j (a.moves.take k.1.1)))),(12, .int .i64 k.1.1,pInt k.1.1)],[(2,_,_),(3,_,_),(4,_,_),(8,_,_),(302,_,_),(303,_,_),(304,_,_)]⟩) (fun k=>a.moves.length-k.1.1) ⟨(0,h87),Xd _⟩ (fun a w H=>H.weaken ⟨rfl,rfl,rfl,rfl,rfl,rfl,rfl,rfl,rfl,trivial⟩ ⟨rfl,rfl,rfl,rfl,rfl,rfl,rfl,trivial⟩) ?_;rintro ⟨⟨u,V⟩,hu⟩;dsimp only;dsimp only at hu;refine Ze ?_;(refine xL 88 Zb (xL 89 (Zd 2 Zx) ?_)<;>(refine yL 90 (Zl 2 ZC) fun v90 h=>?_;cases h)<;>refine xL 91 (ZW ZL) (xL 92 ZQ ?_)<;>refine Zc ?_)
   refine cX ?_ ?_<;>intro hb92
   · first | exact bN hb92|(
 obtain ⟨x,hx⟩:=Zw (show u<a.moves.length by omega);obtain ⟨e0,e1,e2⟩:=Zlk hx;have hxb:=ha.mv x (Xc hx);have hx2:=LK (x:=x.dst) (y:=b.n) (X:=2000) ⟨hxb.2.2.1,oM⟩ ⟨m0,m1⟩;refine Ze ?_;(refine xL 95 (Zd 2 Zx) ?_<;>(refine yL 96 (Zl 2 ZC) fun v96 h=>?_;cases h)<;>refine xL 97 Zb (xL 98 (ZH ZL) (xL 99 (Jk Yd) ?_))<;>(refine yL 100 (Ya Zg) fun v100 h=>?_;cases h)<;>refine xL 101 Zb (xL 102 Yf ?_)<;>refine Zc ?_)
 refine cX ?_ ?_<;>intro hb102
 · first |exact bN hb102|(
 have hins:AF prog 133 [pMvs (mkM (apA b.n i j (a.moves.take u))), .agg (cMv ⟨(i:Nat)*b.n+(j:Nat),x.dst*b.n+(j:Nat),x.sym⟩)] (· =pMvs (mkM (apA b.n i j (a.moves.take (u+1))))):=by
  have h1:=GR (mkM (apA b.n i j (a.moves.take u))) ⟨(i:Nat)*b.n+(j:Nat),x.dst*b.n+(j:Nat),x.sym⟩ (XN (Gz _) (by unfold apA;rw [Xe];exact XN (Vg _ _) (by rw [Xn];omega))) (Kl _);rw [Zbs,←ZmG hx hb102] at h1;exact h1
 refine nav ?_;(refine ZZ (fun i=>([]:List Nat).elem i) [2] kR ?_<;>refine xD 0 103 rfl Zb ?_<;>refine xD 1 104 rfl Zb ?_<;>refine xD 2 105 rfl Zb ?_<;>refine xD 3 106 rfl Jj ?_<;>refine xD 4 107 rfl Zb ?_<;>refine xD 5 108 rfl ZK ?_<;>refine xD 6 109 rfl (Zd 2 Zx) ?_<;>(refine yD 7 110 rfl (Zl 2 ZC) fun v110 h=>?_;cases h)<;>refine xD 8 111 rfl Zb ?_<;>refine xD 9 112 rfl (ZH ZL) ?_<;>refine xD 10 113 rfl (Jk Yi) ?_<;>(refine yD 11 114 rfl (Ya Zg) fun v114 h=>?_;cases h)<;>refine xD 12 115 rfl Zb ?_<;>refine xD 13 116 rfl Jj ?_<;>refine xD 14 117 rfl Zb ?_<;>refine xD 15 118 rfl ZK ?_<;>refine xD 16 119 rfl (Zd 2 Zx) ?_<;>(refine yD 17 120 rfl (Zl 2 ZC) fun v120 h=>?_;cases h)<;>refine xE 18 121 rfl Zb ?_<;>refine xE 19 122 rfl (ZH ZL) ?_<;>refine xE 20 123 rfl (Jk Yp) ?_<;>(refine yE 21 124 rfl (Ya Zg) fun v124 h=>?_;cases h)<;>refine xE 22 125 rfl (ZO YW) ?_<;>(refine Zp 23 kR ?_)<;>(refine Zm rfl fun w9 M9 N9 DQ back=>?_)<;>(refine cS 126 (cA call133 (hins)) fun v126 h=>?_;cases h)<;>refine Zj (back _ (nrm ?_))<;>refine xE 24 11 rfl Za ?_<;>refine YC kR (nav ?_)<;>try dsimp only)
 (refine Zt ?_<;>refine xL 93 Zb (xL 94 ZK (xL 12 Za ?_))<;>refine Zc ?_)
 first
  | (exact Zn (
      ⟨(u+1,v126),Zh hx⟩
      ) (by dsimp only;omega) ⟨rfl,rfl,rfl,rfl,rfl,rfl,rfl,rfl,rfl,trivial⟩ ⟨rfl,rfl,rfl,rfl,rfl,rfl,rfl,trivial⟩)
  | (exact Zn (
      ⟨(u+1,V),Zh hx⟩
      ) (by dsimp only;omega) ⟨rfl,rfl,rfl,rfl,rfl,rfl,rfl,rfl,rfl,trivial⟩ ⟨rfl,rfl,rfl,rfl,rfl,rfl,rfl,trivial⟩))
 · first |exact bN hb102|(
 refine Zq (Wg (t:=11) (p':=pMvs (mkM (apA b.n i j (a.moves.take (u+1))))) rfl (by rw [Zoy hx hb102])) fun _=>?_;refine Ze ?_;(refine xL 93 Zb (xL 94 ZK (xL 12 Za ?_))<;>refine Zc ?_)
 first
  | (exact Zn (
      ⟨(u+1,v126),Zh hx⟩
      ) (by dsimp only;omega) ⟨rfl,rfl,rfl,rfl,rfl,rfl,rfl,rfl,rfl,trivial⟩ ⟨rfl,rfl,rfl,rfl,rfl,rfl,rfl,trivial⟩)
  | (exact Zn (
      ⟨(u+1,V),Zh hx⟩
      ) (by dsimp only;omega) ⟨rfl,rfl,rfl,rfl,rfl,rfl,rfl,rfl,rfl,trivial⟩ ⟨rfl,rfl,rfl,rfl,rfl,rfl,rfl,trivial⟩)))
   · first | exact bN hb92|(
 refine Zq (Wg (t:=11) (p':=pMvs (mkM (apA b.n i j a.moves++apB b.n i j (b.moves.take 0)))) rfl (by rw [Xj (show a.moves.length≤u by omega),show apB b.n i j (b.moves.take 0)=[] from rfl,Xr])) fun _=>?_;refine Ze ?_;(refine xL 13 Za ?_<;>refine Zc ?_)
 refine ZE (ι:={q:Nat×Value//q.1≤b.moves.length}) (fun k=>⟨[(2,_,_),(3,_,_),(4,_,_),(7,_,_),(8,_,_),(9,_,_),(10,_,_),(11,k.1.2,pMvs (mkM (apA b.n i j a.moves++apB b.n i j (b.moves.take k.1.1)))),(13, .int .i64 k.1.1,pInt k.1.1)],[(2,_,_),(3,_,_),(4,_,_),(8,_,_),(302,_,_),(303,_,_),(304,_,_)]⟩) (fun k=>b.moves.length-k.1.1) ⟨(0,V),Xd _⟩ (fun a w H=>H.weaken ⟨rfl,rfl,rfl,rfl,rfl,rfl,rfl,rfl,rfl,trivial⟩ ⟨rfl,rfl,rfl,rfl,rfl,rfl,rfl,trivial⟩) ?_;rintro ⟨⟨w,W⟩,hw⟩;dsimp only;dsimp only at hw;refine Ze ?_;(refine xL 127 Zb (xL 128 (Zd 3 Zx) ?_)<;>(refine yL 129 (Zl 3 ZC) fun v129 h=>?_;cases h)<;>refine xL 130 (ZW ZL) (xL 131 ZQ ?_)<;>refine Zc ?_)
 refine cX ?_ ?_<;>intro hb131
 · first | exact bN hb131|(
 obtain ⟨y,hy⟩:=Zw (show w<b.moves.length by omega);obtain ⟨f0,f1,f2⟩:=Zlk hy;have hyb:=hb.mv y (Xc hy);refine Ze ?_;(refine xL 134 (Zd 3 Zx) ?_<;>(refine yL 135 (Zl 3 ZC) fun v135 h=>?_;cases h)<;>refine xL 136 Zb (xL 137 (ZH ZL) (xL 138 (Jk Yd) ?_))<;>(refine yL 139 (Ya Zg) fun v139 h=>?_;cases h)<;>refine xL 140 Zb (xL 141 Yf ?_)<;>refine Zc ?_)
 refine cX ?_ ?_<;>intro hb141
 · first |exact bN hb141|(
 have hins:AF prog 133 [pMvs (mkM (apA b.n i j a.moves++apB b.n i j (b.moves.take w))), .agg (cMv ⟨(i:Nat)*b.n+(j:Nat),(i:Nat)*b.n+y.dst,y.sym⟩)] (· =pMvs (mkM (apA b.n i j a.moves++apB b.n i j (b.moves.take (w+1))))):=by
  have h1:=GR (mkM (apA b.n i j a.moves++apB b.n i j (b.moves.take w))) ⟨(i:Nat)*b.n+(j:Nat),(i:Nat)*b.n+y.dst,y.sym⟩ (XN (Gz _) (by
   rw [Xb];(have g1:(apA b.n i j a.moves).length≤a.moves.length:=by unfold apA;rw [Xe];exact Vg _ _);(have g2:(apB b.n i j (b.moves.take w)).length≤(b.moves.take w).length:=by unfold apB;rw [Xe];exact Vg _ _);rw [Xn] at g2;omega)) (Kl _)
  rw [Zbs,Xu,←ZmH hy hb141] at h1;exact h1
 refine nav ?_;(refine ZZ (fun i=>([]:List Nat).elem i) [3] kR ?_<;>refine xD 0 142 rfl Zb ?_<;>refine xD 1 143 rfl Zb ?_<;>refine xD 2 144 rfl Zb ?_<;>refine xD 3 145 rfl Jj ?_<;>refine xD 4 146 rfl Zb ?_<;>refine xD 5 147 rfl ZK ?_<;>refine xD 6 148 rfl Zb ?_<;>refine xD 7 149 rfl Zb ?_<;>refine xD 8 150 rfl Jj ?_<;>refine xD 9 151 rfl (Zd 3 Zx) ?_<;>(refine yD 10 152 rfl (Zl 3 ZC) fun v152 h=>?_;cases h)<;>refine xD 11 153 rfl Zb ?_<;>refine xD 12 154 rfl (ZH ZL) ?_<;>refine xD 13 155 rfl (Jk Yi) ?_<;>(refine yD 14 156 rfl (Ya Zg) fun v156 h=>?_;cases h)<;>refine xD 15 157 rfl ZK ?_<;>refine xD 16 158 rfl (Zd 3 Zx) ?_<;>(refine yD 17 159 rfl (Zl 3 ZC) fun v159 h=>?_;cases h)<;>refine xE 18 160 rfl Zb ?_<;>refine xE 19 161 rfl (ZH ZL) ?_<;>refine xE 20 162 rfl (Jk Yp) ?_<;>(refine yE 21 163 rfl (Ya Zg) fun v163 h=>?_;cases h)<;>refine xE 22 164 rfl (ZO YW) ?_<;>(refine Zp 23 kR ?_)<;>(refine Zm rfl fun w9 M9 N9 DQ back=>?_)<;>(refine cS 165 (cA call133 (hins)) fun v165 h=>?_;cases h)<;>refine Zj (back _ (nrm ?_))<;>refine xE 24 11 rfl Za ?_<;>refine YC kR (nav ?_)<;>try dsimp only)
 (refine Zt ?_<;>refine xL 132 Zb (xL 133 ZK (xL 13 Za ?_))<;>refine Zc ?_)
 first
  | (exact Zn (
      ⟨(w+1,v165),Zh hy⟩
      ) (by dsimp only;omega) ⟨rfl,rfl,rfl,rfl,rfl,rfl,rfl,rfl,rfl,trivial⟩ ⟨rfl,rfl,rfl,rfl,rfl,rfl,rfl,trivial⟩)
  | (exact Zn (
      ⟨(w+1,W),Zh hy⟩
      ) (by dsimp only;omega) ⟨rfl,rfl,rfl,rfl,rfl,rfl,rfl,rfl,rfl,trivial⟩ ⟨rfl,rfl,rfl,rfl,rfl,rfl,rfl,trivial⟩))
 · first |exact bN hb141|(
 refine Zq (Wg (t:=11) (p':=pMvs (mkM (apA b.n i j a.moves++apB b.n i j (b.moves.take (w+1))))) rfl (by rw [Zoz hy hb141])) fun _=>?_;refine Ze ?_;(refine xL 132 Zb (xL 133 ZK (xL 13 Za ?_))<;>refine Zc ?_)
 first
  | (exact Zn (
      ⟨(w+1,v165),Zh hy⟩
      ) (by dsimp only;omega) ⟨rfl,rfl,rfl,rfl,rfl,rfl,rfl,rfl,rfl,trivial⟩ ⟨rfl,rfl,rfl,rfl,rfl,rfl,rfl,trivial⟩)
  | (exact Zn (
      ⟨(w+1,W),Zh hy⟩
      ) (by dsimp only;omega) ⟨rfl,rfl,rfl,rfl,rfl,rfl,rfl,rfl,rfl,trivial⟩ ⟨rfl,rfl,rfl,rfl,rfl,rfl,rfl,trivial⟩)))
 · first |exact bN hb131|(
 refine Zq (Wg (t:=11) (p':=pMvs (Hu a b i j)) rfl (by rw [Xj (show b.moves.length≤w by omega)];rfl)) fun _=>?_;have hol:=Zll a b i j;refine Ze ?_;(refine xL 166 (Zd 8 Zx) ?_<;>(refine yL 167 (Zl 8 ZC) fun v167 h=>?_;cases h)<;>refine xL 168 Zb ?_<;>(refine W2 304 169 ZU (fun h169 ho169=>?_) (TL (Hu a b i j)) (L1 (Hu a b i j));have q169:En.one (PV.val h169)=true:=ho169;refine Zu (ZD (l:=169) 304 rfl rfl) fun _=>?_;refine Zu (ZF (l:=304) (p':= .own 93 3 (Gp a b i++LG a b i (j+1)).length ((Gp a b i++LG a b i (j+1)).flatMap cMv)) rfl (by rw [ZaF,←Xu];exact Znj _ (Gp a b i++LG a b i j) (Hu a b i j))) fun _=>?_)<;>refine xL 170 (Zd 8 Zx) ?_<;>refine YQ 8 ZC YK ?_<;>refine Zc ?_)
 have hmore:=Zkr (a:=a) (b:=b) hilt (show j+1≤b.n.toNat from hjlt);(have hl7:(Gp a b i++LG a b i (j+1)).length≤100000:=by rw [ZaF,←Xu,Xb];omega);rw [hall] at hmore;(refine Zt ?_<;>refine xL 171 (Zd 8 Zx) ?_<;>(refine yL 172 (Zl 8 ZC) fun v172 h=>?_;cases h)<;>refine xL 173 (YH 304 ZL) (xL 174 Yz ?_)<;>refine Zc ?_)
 refine cX ?_ ?_<;>intro hb174
 · first|exact bN hb174|(
 refine Ze ?_;((refine cP 175 (cA call194 (Gn)) fun va175 vb175 hva175 h=>?_;cases h)<;>refine xL 176 Zi (xL 177 Zi ?_)<;>refine Zz 4 Zf ?_<;>refine xL 5 Za ?_<;>refine Zc ?_)
 exact Z8 (k:=5) 4 kR (results147) rfl rfl rfl (Xa rfl) dC rfl (by rw [UU oM];rfl))
 · first|exact bN hb174|(
 refine Ze ?_;(refine xL 45 Zb (xL 46 ZK (xL 10 Za ?_))<;>refine Zc ?_)
 refine Zn (
  ⟨(j+1,hS3,hF3,h169),hjlt,hS3o,hF3o,ho169,by dsimp only;omega⟩
  ) (by dsimp only;omega) ⟨rfl,rfl,rfl,rfl,rfl,rfl,rfl,trivial⟩ ⟨rfl,rfl,rfl,rfl,rfl,rfl,rfl,trivial⟩))))))
 · first|exact bN hb44|(
 have hjm:j=b.n.toNat:=oM;subst hjm;rw [←ZaG] at hM2l;refine Zq (ZF (l:=302) (p':= .own 3 1 (KL b.n a.start b.start (i+1)).length ((KL b.n a.start b.start (i+1)).map pInt)) rfl (by rw [Dv])) fun _=>?_;refine Zq (ZF (l:=303) (p':= .own 3 1 (KL b.n a.fin b.fin (i+1)).length ((KL b.n a.fin b.fin (i+1)).map pInt)) rfl (by rw [Dv])) fun _=>?_;refine Zq (ZF (l:=304) (p':= .own 93 3 (Gp a b (i+1)).length ((Gp a b (i+1)).flatMap cMv)) rfl (by rw [ZaG])) fun _=>?_;refine Ze ?_;(refine xL 40 Zb (xL 41 ZK (xL 9 Za ?_))<;>refine Zc ?_)
 refine Zn (
  ⟨(i+1,hS2,hF2,hM2),hilt,hS2o,hF2o,hM2o,hM2l⟩
  ) (by dsimp only;omega) ⟨rfl,rfl,rfl,rfl,rfl,rfl,trivial⟩ ⟨rfl,rfl,rfl,rfl,rfl,rfl,rfl,trivial⟩))
 · first|exact bN hb39|(
 have hin:i=a.n.toNat:=oM;subst hin;rw [hall] at hMl;have hr:=hr hMl;refine nav ?_;refine Zq (Z7 (l:=8) (l':=302) (j:=2) rfl rfl rfl rfl) fun _=>?_;refine Zq (Z7 (l:=8) (l':=303) (j:=3) rfl rfl rfl rfl) fun _=>?_;refine Zq (Z7 (l:=8) (l':=304) (j:=4) rfl rfl rfl rfl) fun _=>?_;refine Zq (ZF (l:=8) (p':= .own 39 5 1 [pInt (a.n*b.n),pInt a.syms,pInts (shI b.n a.start b.start),pInts (shI b.n a.fin b.fin),pMvs (mkM (Wr a b).moves)]) rfl (by
  rw [ZV _ _ _ rfl,ZV _ _ _ rfl,W7 _ _ _ rfl,ZgG ha.st hb.st ha.ss hb.ss,ZgG ha.fi hb.fi ha.fs hb.fs,hall];rfl)) fun _=>?_
 (refine Zt ?_<;>(refine yL 178 (Zs 8 Zf) fun v178 h=>?_;cases h)<;>(refine cP 179 (cA call199 hr) (fun va179 vb179 hva179 hvb179=>?_) (hsh:=r5.t E);cases hvb179)<;>refine xL 180 Zi (xL 181 Zi ?_)<;>refine Zz 4 Zf ?_<;>refine xL 5 Za ?_<;>refine Zc ?_)
 exact Z8 (k:=5) 4 kR (results147) rfl rfl rfl (Xa rfl) dC r5.s (by rw [UT oM];rfl)))
theorem ZbS (a b:Aut) (hla:a.moves.length≤1000000) (hlb:b.moves.length≤1000000):AF prog 147 [ZJ a,ZJ b] (· =resW (LF a b)):=by
 by_cases h0:Wt a b=0
 · obtain ⟨ha,hb,hs⟩:=Jv h0;rw [Zh6 ha hb hs h0];obtain ⟨p0,p1,p2,p3,p4,E,h5,h2⟩:=Zg0 (G0 (mkA (Wr a b)));refine (ZbR a b hla hlb h0 h5 (E:=E) fun hl=>?_).mono fun p hp=>?_
   · have hr:=Ta (mkA (Wr a b)) (XN hl oM);rw [h2] at hr;exact hr
   · rw [hp];by_cases h1:2000<a.n*b.n
     · rw [UU (.inl h1),UU h1];rfl
     · rw [UT h1];by_cases h3:20000<(mkM (Wr a b).moves).length
       · rw [UU (.inr h3)];have:G0 (mkA (Wr a b))= .error 13:=by
          unfold G0;rw [UU (.inr h3)]
         rw [this];rfl
       · rw [UT (fun h=>h.elim h1 h3)];exact h2.symm
 · unfold LF;rw [UU h0];exact CI a b _ h0 (Gs a b hla hlb)
theorem Yx:AggT prog 39 5=true:=by kernel_rfl
theorem Zf4:ElT prog 117 36 1 24 (.slice none 0 0):=⟨underlying117,by kernel_rfl,rfl,dC⟩
theorem PN:ElT prog 139 4 1 1 (.bool false):=⟨underlying139,by kernel_rfl,rfl,dC⟩
theorem Dw:ElT prog 36 3 1 8 (.int .i64 0):=⟨underlying36,by kernel_rfl,rfl,dC⟩
theorem Ri:FldT prog 39 0 0=true:=by kernel_rfl
theorem Hi:FldT prog 39 3 3=true:=by kernel_rfl
theorem Rj:FldT prog 39 4 4=true:=by kernel_rfl
theorem RU:NoAgg prog 36=true:=by kernel_rfl
theorem Dx:NoAgg prog 37=true:=by kernel_rfl
theorem OL:NoAgg prog 3=true:=by kernel_rfl
theorem Zes:NoAgg prog 4=true:=by kernel_rfl
theorem PO:SlT prog 117 36 1=true:=by kernel_rfl
theorem PP:SlT prog 139 4 1=true:=by kernel_rfl
theorem ZaH:SlT prog 36 3 1=true:=by kernel_rfl
theorem ZiB:SlT prog 37 93 3=true:=by kernel_rfl
theorem Dy:W1 prog 39=some ((.agg #[(.int .i64 0),(.int .i64 0),(.slice none 0 0),(.slice none 0 0),(.slice none 0 0)]),([0,1,2,3,4]:List Nat).map fun o=>(o,1)):=by kernel_rfl
theorem ZiC:W1 prog 93=some ((.agg #[(.int .i64 0),(.int .i64 0),(.int .i64 0)]),([0,1,2]:List Nat).map fun o=>(o,1)):=by kernel_rfl
theorem ZiD:(prog.info? 36).map (·.size)=some 1:=by kernel_rfl
theorem ZiE:(prog.info? 37).map (·.size)=some 1:=by kernel_rfl
theorem Zlm:(prog.info? 3).map (·.size)=some 1:=by kernel_rfl
theorem Zln:(prog.info? 4).map (·.size)=some 1:=by kernel_rfl
theorem Je:ZeroT prog 39 (.agg #[(.int .i64 0),(.int .i64 0),(.slice none 0 0),(.slice none 0 0),(.slice none 0 0)]):=by unfold ZeroT;kernel_rfl
def Hj (w:List Int) (n:Int):Aut:=⟨(1+w.length:Nat),n,[0],[(w.length:Nat)],w.map fun k=>⟨0,1,k⟩⟩
theorem ZiF (n:Nat) (k:Int):Hj [k] n=G1 n k:=rfl
theorem Zlo (n:Nat):Hj [] n=R4 n:=rfl
def ζc (w:List Int) (i:Nat):List Bool:=if i=0 then [false] else (List.replicate (w.length+1) false).set w.length true
theorem Zlp {w:List Int} {i:Nat} (hi:i≤1):(ζc w i).length=if i=0 then 1 else w.length+1:=by
 unfold ζc
 split<;>simp
def Rk (w:List Int) (i:Nat):List Int:=if w.length<i then [((w.length:Nat):Int)] else []
theorem Zlq (w:List Int) (i:Nat):(Rk w i).length≤1:=by unfold Rk;split<;>simp
theorem Znk {w:List Int} {m:Nat} (h:m<w.length+1):((ζc w 1).map ZN)[m*1]? =some (ZN (decide (m=w.length))):=by
 unfold ζc
 rw [UT dC,Xp,Xg]
 by_cases e:m=w.length
 · subst e;rw [X9 sM,UR rfl];rfl
 · rw [Vi (fun h=>e h.symm),List.getElem?_replicate_of_lt h,US e];rfl
theorem Znl (n:Int):Rr (.agg [pInt 1,pInt n,pInts [0], .val (.slice none 0 0), .val (.slice none 0 0)]) (.agg [pInt 1,pInt n,pInts [0], .val (.slice none 0 0),pMvs []]):=Rr.agg rfl fun i p p' h1 h2=>by
 match i with
 |0=>cases h1;cases h2;exact Rr.rfl' _
 |1=>cases h1;cases h2;exact Rr.rfl' _
 |2=>cases h1;cases h2;exact Rr.rfl' _
 |3=>cases h1;cases h2;exact Rr.rfl' _
 |4=>cases h1;cases h2;exact Rr.nil
 |i+5=>simp at h1
set_option maxHeartbeats 4000000 in
theorem ZiG (w :List Int) (n:Int) (hw:w.length≤1):AF prog 85 [Pk [w],pInt n] (· =ZJ (Hj w n)):=by
 refine AF.of_body 115 func85 rfl ntmps85 (Xa rfl) ?_
 intro w0 M0 vs hl hv
 obtain ⟨v0,v1,rfl⟩:=YX hl
 obtain rfl:=hv 1 _ _ rfl rfl
 clear hl hv
 refine Ze ?_
 (refine Zv [(.int .i64 0),(.int .i64 0),(.slice none 0 0),(.slice none 0 0),(.slice none 0 0)] 5 4 Je fun h4=>?_<;>refine Zk ?_)
 (refine xL 13 Zb ?_<;>(refine ZM (kk:=1) 14 Dw fun h14 ho14=>?_;refine Zu (En.freeze (l:=14) (t:=14) rfl rfl) fun _=>?_;refine Zu (Wg (t:=14) (p':=pInts [0]) rfl rfl) fun _=>?_)<;>(refine xL 15 (ZO Dy) ?_;refine Zu (Zjp (t:=15) (p':= .agg [pInt 1,pInt n,pInts [0], .val (.slice none 0 0),pMvs []]) rfl (Znl n)) fun _=>?_)<;>refine Zv [(.int .i64 0),(.int .i64 0),(.slice none 0 0),(.slice none 0 0),(.slice none 0 0)] 5 5 Je fun h5=>?_<;>refine Zz 5 Yx ?_<;>refine Zk ?_)
 (refine ZM (kk:=1) 16 PN fun h16 ho16=>?_<;>refine xL 6 Za ?_<;>refine Zc ?_)
 refine Zq (ZD (l:=16) 200 rfl rfl) fun _=>?_
 (refine Zt ?_<;>refine xL 7 Za ?_<;>refine Zc ?_)
 refine ZE (ι:={q:Nat×Value//q.1≤1∧q.2.oneCell'=true}) (fun k=>⟨[(0,_,_),(1,_,_),(4,_,_),(5,_,_),(6,k.1.2, .val k.1.2),(7, .int .i64 k.1.1,pInt k.1.1)],[(4,_,_),(5,h5, .own 39 5 1 [pInt (1+(w.take k.1.1).length:Nat),pInt n,pInts [0], .val (.slice none 0 0),pMvs ((w.take k.1.1).map fun k=>⟨0,1,k⟩)]),(200,k.1.2, .own 4 1 (ζc w k.1.1).length ((ζc w k.1.1).map ZN))]⟩) (fun k=>1-k.1.1) ⟨(0,h16),Xd _,ho16⟩ (fun a w H=>H.weaken ⟨rfl,rfl,rfl,rfl,rfl,rfl,trivial⟩ ⟨rfl,rfl,rfl,trivial⟩) ?_
 rintro ⟨⟨i,hb⟩,hi,ho⟩
 dsimp only
 dsimp only at hi ho
 refine Ze ?_
 (refine xL 17 Zb (xL 18 Zb (xL 19 (ZW PO) (xL 20 ZQ ?_)))<;>refine Zc ?_)
 refine cX ?_ ?_<;>intro hb20
 · first | exact bN hb20|(
 obtain rfl:i=0:=by
  (have h:(i:Int)<1:=by simpa using hb20);omega
 have e1:([w].map pInts)[0*1]? =some (pInts w):=rfl;refine Ze ?_;(refine xL 8 Za ?_<;>refine Zk ?_)
 (refine xL 9 Za ?_<;>refine Zc ?_)
 refine ZE (ι:={q:Nat×Value//q.1≤w.length∧q.2.oneCell'=true}) (fun k=>⟨[(0,_,_),(1,_,_),(4,_,_),(5,_,_),(7,_,_),(6,k.1.2, .val k.1.2),(8, .int .i64 k.1.1,pInt k.1.1),(9, .int .i64 k.1.1,pInt k.1.1)],[(4,_,_),(5,h5, .own 39 5 1 [pInt (1+(w.take k.1.1).length:Nat),pInt n,pInts [0], .val (.slice none 0 0),pMvs ((w.take k.1.1).map fun k=>⟨0,1,k⟩)]),(200,k.1.2, .own 4 1 (List.replicate (k.1.1+1) false).length ((List.replicate (k.1.1+1) false).map ZN))]⟩) (fun k=>w.length-k.1.1) ⟨(0,hb),Xd _,ho⟩ (fun a w H=>H.weaken ⟨rfl,rfl,rfl,rfl,rfl,rfl,rfl,rfl,trivial⟩ ⟨rfl,rfl,rfl,trivial⟩) ?_;rintro ⟨⟨j,hc⟩,hj,hco⟩;dsimp only;dsimp only at hj hco;refine Ze ?_;(refine xL 23 Zb (xL 24 Zb (xL 25 Zb (xL 26 (ZH PO) ?_)))<;>(refine yL 27 (Ya RU) fun v27 h=>?_;cases h)<;>refine xL 28 (ZW ZaH) (xL 29 ZQ ?_)<;>refine Zc ?_)
 refine cX ?_ ?_<;>intro hb29
 · first |exact bN hb29|(
 obtain rfl:j=0:=oM;obtain ⟨x,rfl⟩:∃x,w=[x]:=by
  match w,hw,hb29 with
  |[],_,h=>simp at h
  |[x],_,_=>exact ⟨x,rfl⟩
 have e2:([x].map pInt)[0*1]? =some (pInt x):=rfl;refine Zq (ZF (l:=5) (p':= .own 39 5 1 [pInt 1,pInt n,pInts [0], .val (.slice none 0 0),pMvs []]) rfl rfl) fun _=>?_;refine Ze ?_;(refine xL 10 Za ?_<;>refine Zk ?_)
 (refine xL 11 Za ?_<;>refine Zc ?_)
 refine ZE (ι:={k:Nat//k=0}) (fun k=>⟨[(0,_,_),(1,_,_),(4,_,_),(5,_,_),(6,_,_),(7,_,_),(8,_,_),(9,_,_),(10,_,_),(11, .int .i64 k.1,pInt k.1)],[(4,_,_),(5,_,_),(200,_,_)]⟩) (fun k=>0) ⟨0,rfl⟩ (fun a w H=>H.weaken ⟨rfl,rfl,rfl,rfl,rfl,rfl,rfl,rfl,rfl,rfl,trivial⟩ ⟨rfl,rfl,rfl,trivial⟩) ?_;rintro ⟨_,rfl⟩;dsimp only;refine Ze ?_;(refine xL 32 Zb (xL 33 (Zd 5 Rj) ?_)<;>(refine yL 34 (Zl 5 Dx) fun v34 h=>?_;cases h)<;>refine xL 35 (ZW ZiB) (xL 36 ZQ ?_)<;>refine Zc ?_)
 refine cX ?_ ?_<;>intro hb36
 · exact UV hb36 sM
 · refine Ze ?_;(refine xL 69 Zb (xL 70 ZQ ?_)<;>refine Zc ?_)
   refine cX ?_ ?_<;>intro hb70
   · refine Ze ?_;(refine xL 71 (Zd 5 Ri) ?_<;>(refine yL 72 (Zl 5 OL) fun v72 h=>?_;cases h)<;>refine xL 10 Za ?_<;>refine Zk ?_)
     (refine xL 73 (Zd 5 Ri) ?_<;>(refine yL 74 (Zl 5 OL) fun v74 h=>?_;cases h)<;>refine xL 75 ZK (xL 76 (Zd 5 Ri) ?_)<;>refine YQ 5 OL Zlm ?_<;>refine Zk ?_)
     (refine xL 77 Zb ?_<;>refine ZM (kk:=1) 78 PN fun h78 ho78=>?_<;>(refine ZY 200 78 79 PN fun h79 ho79=>?_;refine Zu (ZD (l:=79) 200 rfl rfl) fun _=>?_)<;>refine xL 6 Za ?_<;>refine Zc ?_)
     (refine ZZ (fun i=>([14]:List Nat).elem i) [5] kR ?_<;>refine xD 0 80 rfl (Zd 5 Rj) ?_<;>(refine yD 1 81 rfl (Zl 5 Dx) fun v81 h=>?_;cases h)<;>refine xD 2 82 rfl Zb ?_<;>refine xD 3 83 rfl Zb ?_<;>refine xD 4 84 rfl Zb ?_<;>refine xD 5 85 rfl Zb ?_<;>refine xD 6 86 rfl (ZH PO) ?_<;>(refine yD 7 87 rfl (Ya RU) fun v87 h=>?_;cases h)<;>refine xE 8 88 rfl Zb ?_<;>refine xE 9 89 rfl (ZH ZaH) ?_<;>(refine yE 10 90 rfl (Ya OL) fun v90 h=>?_;cases h)<;>refine xE 11 91 rfl (ZO ZiC) ?_<;>(refine Zp 12 kR ?_)<;>(refine Zm rfl fun w9 M9 N9 DQ back=>?_)<;>(refine cS 92 (cA call133 (GR [] ⟨0,1,x⟩ (Xd _) List.Pairwise.nil)) fun v92 h=>?_;cases h)<;>refine Zj (back _ (nrm ?_))<;>refine xE 13 93 rfl (Zd 5 Rj) ?_<;>(refine Zp 14 kR ?_)<;>(refine Kb rfl rfl kR fun DQ back=>?_)<;>refine YQ 5 Dx ZiE ?_<;>refine Zj (back _ (nav ?_))<;>try dsimp only)
     (refine Zt ?_<;>refine xL 94 Zb (xL 8 Za ?_)<;>refine Zk ?_)
     (refine xL 30 Zb (xL 31 ZK (xL 9 Za ?_))<;>refine Zc ?_)
     refine Zn (
      ⟨(1,h79),Xh _,ho79⟩
      ) (by dsimp only;omega) ⟨rfl,rfl,rfl,rfl,rfl,rfl,rfl,rfl,trivial⟩ ⟨rfl,rfl,rfl,trivial⟩
   · exact UV dC hb70)
 · first|exact bN hb29|(
 obtain rfl:j=w.length:=oM;have htk:w.take 1=w:=Xj hw;refine Ze ?_;(refine xL 95 Zb (xL 96 Zb (xL 97 (Yg 200 PP) ?_))<;>refine YQ 200 Zes Zln ?_<;>refine Zc ?_)
 refine Zq (ZF (l:=200) (p':= .own 4 1 (ζc w 1).length ((ζc w 1).map ZN)) rfl (by unfold ζc;rw [UT dC,Xv,VT,Xp])) fun _=>?_;refine Zq (ZF (l:=5) (p':= .own 39 5 1 [pInt (1+(w.take 1).length:Nat),pInt n,pInts [0], .val (.slice none 0 0),pMvs ((w.take 1).map fun k=>⟨0,1,k⟩)]) rfl (by rw [htk,VI])) fun _=>?_;(refine Zt ?_<;>refine xL 21 Zb (xL 22 ZK (xL 7 Za ?_))<;>refine Zc ?_)
 refine Zn (
  ⟨(1,hc),Xh _,hco⟩
  ) (by dsimp only;omega) ⟨rfl,rfl,rfl,rfl,rfl,rfl,trivial⟩ ⟨rfl,rfl,rfl,trivial⟩))
 · first | exact bN hb20|(
 obtain rfl:i=1:=by
  have h:¬(i:Int)<1:=fun h=>hb20 (by simpa using h);omega
 have htk:w.take 1=w:=Xj hw;refine Zq (ZF (l:=5) (p':= .own 39 5 1 [pInt (1+w.length:Nat),pInt n,pInts [0], .val (.slice none 0 0),pMvs (w.map fun k=>⟨0,1,k⟩)]) rfl (by rw [htk])) fun _=>?_;have hfl:(ζc w 1).length=w.length+1:=Zlp (i:=1) (Xh _);refine Ze ?_;(refine xL 12 Za ?_<;>refine Zc ?_)
 refine Zq (WF (l:=5) [pInt (1+w.length:Nat),pInt n,pInts [0], .own 3 1 0 [],pMvs (w.map fun k=>⟨0,1,k⟩)] rfl rfl (fun i p p' h1 h2=>by
  match i with
  |0=>cases h1;cases h2;exact .inl rfl
  |1=>cases h1;cases h2;exact .inl rfl
  |2=>cases h1;cases h2;exact .inl rfl
  |3=>cases h1;cases h2;exact .inr ⟨rfl,_,_,rfl⟩
  |4=>cases h1;cases h2;exact .inl rfl
  |i+5=>simp at h2)) fun _=>?_
 refine Zq (We (l:=5) (l':=301) (j:=3) rfl rfl rfl rfl) fun i=>?_;obtain ⟨v301,ho301⟩:=i;dsimp only [List.set];refine ZE (ι:={q:Nat×Value//q.1≤w.length+1∧q.2.oneCell'=true}) (fun k=>⟨[(4,_,_),(5,_,_),(6,_,_),(12, .int .i64 k.1.1,pInt k.1.1)],[(4,_,_),(200,_,_),(5,h5, .own 39 5 1 [pInt (1+w.length:Nat),pInt n,pInts [0], .val k.1.2,pMvs (w.map fun k=>⟨0,1,k⟩)]),(301,k.1.2, .own 3 1 (Rk w k.1.1).length ((Rk w k.1.1).map pInt))]⟩) (fun k=>w.length+1-k.1.1) ⟨(0,v301),Xd _,ho301⟩ (fun a w H=>H.weaken ⟨rfl,rfl,rfl,rfl,trivial⟩ ⟨rfl,rfl,rfl,rfl,trivial⟩) ?_;rintro ⟨⟨m,hF⟩,hm,hFo⟩;dsimp only;dsimp only at hm hFo;have hll:=Zlq w m;refine Ze ?_;(refine xL 98 Zb (xL 99 Zb (xL 100 (YH 200 PP) (xL 101 ZQ ?_)))<;>refine Zc ?_)
 refine cX ?_ ?_<;>intro hb101
 · first | exact bN hb101|(
 have hml:m<w.length+1:=oM;have e3:=Znk hml;refine Ze ?_;(refine xL 104 Zb (xL 105 Zb (xL 106 (Yg 200 PP) ?_))<;>(refine yL 107 (Zl 200 Zes) fun v107 h=>?_;cases h)<;>refine Zc ?_)
 refine cX ?_ ?_<;>intro hb107
 · first |exact bN hb107|(
 (have hmw:m=w.length:=by simpa using hb107);(have hT1:Rk w m=[]:=by unfold Rk;rw [UT oM]);(have hT2:Rk w (m+1)=[((m:Nat):Int)]:=by unfold Rk;rw [UU oM,hmw]);refine Ze ?_;(refine xL 108 (Zd 5 Hi) ?_<;>(refine yL 109 (Zl 5 RU) fun v109 h=>?_;cases h)<;>refine xL 110 Zb ?_<;>refine ZM (kk:=1) 111 Dw fun h111 ho111=>?_<;>(refine ZY 301 111 112 Dw fun h112 ho112=>?_;refine Zu (ZD (l:=112) 301 rfl rfl) fun _=>?_;refine Zu (ZF (l:=301) (p':= .own 3 1 (Rk w (m+1)).length ((Rk w (m+1)).map pInt)) rfl (by rw [hT1,hT2];rfl)) fun _=>?_)<;>refine xL 113 (Zd 5 Hi) ?_<;>refine YQ 5 RU ZiD ?_<;>refine Zk ?_)
 (refine xL 102 Zb (xL 103 ZK (xL 12 Za ?_))<;>refine Zc ?_)
 first
  | (exact Zn (
      ⟨(m+1,h112),by dsimp only;omega,ho112⟩
      ) (by dsimp only;omega) ⟨rfl,rfl,rfl,rfl,trivial⟩ ⟨rfl,rfl,rfl,rfl,trivial⟩)
  | (exact Zn (
      ⟨(m+1,hF),by dsimp only;omega,hFo⟩
      ) (by dsimp only;omega) ⟨rfl,rfl,rfl,rfl,trivial⟩ ⟨rfl,rfl,rfl,rfl,trivial⟩))
 · first |exact bN hb107|(
 (have hmw:m≠w.length:=by simpa using hb107);(have hT:Rk w (m+1)=Rk w m:=by unfold Rk;rw [UT oM,UT oM]);refine Zq (ZF (l:=301) (p':= .own 3 1 (Rk w (m+1)).length ((Rk w (m+1)).map pInt)) rfl (by rw [hT])) fun _=>?_;refine Ze ?_;(refine xL 102 Zb (xL 103 ZK (xL 12 Za ?_))<;>refine Zc ?_)
 first
  | (exact Zn (
      ⟨(m+1,h112),by dsimp only;omega,ho112⟩
      ) (by dsimp only;omega) ⟨rfl,rfl,rfl,rfl,trivial⟩ ⟨rfl,rfl,rfl,rfl,trivial⟩)
  | (exact Zn (
      ⟨(m+1,hF),by dsimp only;omega,hFo⟩
      ) (by dsimp only;omega) ⟨rfl,rfl,rfl,rfl,trivial⟩ ⟨rfl,rfl,rfl,rfl,trivial⟩)))
 · first|exact bN hb101|(
 (have hT:Rk w m=[((w.length:Nat):Int)]:=by unfold Rk;rw [UU oM]);refine Zq (ZF (l:=301) (p':= .own 3 1 [((w.length:Nat):Int)].length ([((w.length:Nat):Int)].map pInt)) rfl (by rw [hT])) fun _=>?_;refine nav ?_;refine Zq (Z7 (l:=5) (l':=301) (j:=3) rfl rfl rfl rfl) fun _=>?_;(refine Zt ?_<;>(refine yL 114 (Zs 5 Yx) fun v114 h=>?_;cases h)<;>refine Zz 4 Yx ?_<;>refine Zc ?_)
 exact Sx (k:=5) 4 kR (results85) rfl rfl (Xa rfl) dC rfl rfl))
theorem ZaI (x:Except Int Aut):∃p0 p1 p2 p3 p4 E,R5 p0 p1 p2 p3 p4∧resW x= .tup [.agg [p0,p1,p2,p3,p4],pInt E]:=by
 rcases Dc x with ⟨A,_,h⟩|⟨e,_,h⟩
 · exact ⟨_,_,_,_,_,_,R5.aut A,h⟩
 · exact ⟨_,_,_,_,_,_,R5.raw,h⟩
theorem ZaJ (w:List Int) (n:Int) (hw:w.length≤1):AF prog 98 [pInts w,pInt n] (· =resW (Ji (Hj w n))):=by
 obtain ⟨p0,p1,p2,p3,p4,E,r5,hres⟩:=ZaI (Ji (Hj w n))
 have hj:=G8 (Hj w n) (by show (w.map _).length≤_;rw [Xe];omega)
 rw [hres] at hj ⊢
 obtain ⟨o0,o1,o2,o3,o4⟩:=r5.o
 refine AF.of_body 13 func98 rfl ntmps98 (Xa rfl) ?_
 intro w0 M0 vs hl hv
 obtain ⟨v0,v1,rfl⟩:=YX hl
 obtain rfl:=hv 1 _ _ rfl rfl
 clear hl hv
 refine Ze ?_
 (refine Zv [(.int .i64 0),(.int .i64 0),(.slice none 0 0),(.slice none 0 0),(.slice none 0 0)] 5 4 Je fun h4=>?_<;>refine xL 5 Za ?_<;>refine Zk ?_)
 (refine xL 6 Zb ?_<;>(refine ZM (kk:=1) 7 Zf4 fun h7 ho7=>?_;refine Zu (En.freeze (l:=7) (t:=7) rfl rfl) fun _=>?_;refine Zu (Wg (t:=7) (p':=Pk [w]) rfl rfl) fun _=>?_)<;>refine xL 8 Zb ?_<;>(refine cD 9 (cA call85 (ZiG w n hw)) fun v9 hv9=>?_;clear hv9)<;>(refine cP 10 (cA (call143) hj) (fun va10 vb10 hva10 hvb10=>?_) (hsh:=r5.t E);cases hvb10)<;>refine xL 11 Zi (xL 12 Zi ?_)<;>refine Zz 4 Yx ?_<;>refine xL 5 Za ?_<;>refine Zc ?_)
 exact Z8 (k:=5) 4 kR (results98) rfl rfl rfl (Xa rfl) dC r5.s rfl
theorem Zet (a b:Aut) (ha:a.moves.length≤1000000) (hb:b.moves.length≤1000000):AF prog 100 [pInt 3,ZJ a,ZJ b] (· =resW (Ws 3 a b)):=by
 rw [show Ws 3 a b=GK a b from rfl]
 obtain ⟨p0,p1,p2,p3,p4,E,r5,hres⟩:=ZaI (GK a b)
 have hj:=Rh a b ha hb
 rw [hres] at hj ⊢
 obtain ⟨o0,o1,o2,o3,o4⟩:=r5.o
 refine AF.of_body 28 func100 rfl ntmps100 (Xa rfl) ?_
 intro w0 M0 vs hl hv
 obtain ⟨v0,v1,v2,rfl⟩:=Jx hl
 obtain rfl:=hv 0 _ _ rfl rfl
 clear hl hv
 refine Ze ?_
 (refine ZB 4 5 fun h4=>?_<;>refine ZB 5 5 fun h5=>?_<;>refine Zv [(.int .i64 0),(.int .i64 0),(.slice none 0 0),(.slice none 0 0),(.slice none 0 0)] 5 6 Je fun h6=>?_<;>refine xL 7 Za ?_<;>refine Zk ?_)
 (refine xL 8 Zb ?_<;>refine Zk ?_)
 (refine xL 10 Yf (xL 9 Za ?_)<;>refine Zc ?_)
 refine cX ?_ ?_<;>intro hb9
 · try (exact UV hb9 dC)
   refine Ze ?_;((refine yL 11 (Zs 4 Yx) fun v11 h=>?_;cases h)<;>(refine yL 12 (Zs 5 Yx) fun v12 h=>?_;cases h)<;>(refine cP 13 (cA (call144) hj) (fun va13 vb13 hva13 hvb13=>?_) (hsh:=r5.t E);cases hvb13)<;>refine xL 14 Zi (xL 15 Zi ?_)<;>refine Zz 6 Yx ?_<;>refine xL 7 Za ?_<;>refine Zc ?_)
   exact Z8 (k:=5) 6 kR (results100) rfl rfl rfl (Xa rfl) dC r5.s rfl
 · try (exact UV rfl hb9)
theorem Zeu (a b:Aut) (ha:a.moves.length≤1000000) (hb:b.moves.length≤1000000):AF prog 100 [pInt 4,ZJ a,ZJ b] (· =resW (Ws 4 a b)):=by
 rw [show Ws 4 a b=Gj a b from rfl]
 obtain ⟨p0,p1,p2,p3,p4,E,r5,hres⟩:=ZaI (Gj a b)
 have hj:=Zf3 a b ha hb
 rw [hres] at hj ⊢
 obtain ⟨o0,o1,o2,o3,o4⟩:=r5.o
 refine AF.of_body 28 func100 rfl ntmps100 (Xa rfl) ?_
 intro w0 M0 vs hl hv
 obtain ⟨v0,v1,v2,rfl⟩:=Jx hl
 obtain rfl:=hv 0 _ _ rfl rfl
 clear hl hv
 refine Ze ?_
 (refine ZB 4 5 fun h4=>?_<;>refine ZB 5 5 fun h5=>?_<;>refine Zv [(.int .i64 0),(.int .i64 0),(.slice none 0 0),(.slice none 0 0),(.slice none 0 0)] 5 6 Je fun h6=>?_<;>refine xL 7 Za ?_<;>refine Zk ?_)
 (refine xL 8 Zb ?_<;>refine Zk ?_)
 (refine xL 10 Yf (xL 9 Za ?_)<;>refine Zc ?_)
 refine cX ?_ ?_<;>intro hb9
 · try (exact UV hb9 dC)
 · try (exact UV rfl hb9)
   refine Ze ?_;(refine xL 17 Yf (xL 16 Za ?_)<;>refine Zc ?_)
   refine cX ?_ ?_<;>intro hb16
   · try (exact UV hb16 dC)
     refine Ze ?_;((refine yL 18 (Zs 4 Yx) fun v18 h=>?_;cases h)<;>(refine yL 19 (Zs 5 Yx) fun v19 h=>?_;cases h)<;>(refine cP 20 (cA (call146) hj) (fun va20 vb20 hva20 hvb20=>?_) (hsh:=r5.t E);cases hvb20)<;>refine xL 21 Zi (xL 22 Zi ?_)<;>refine Zz 6 Yx ?_<;>refine xL 7 Za ?_<;>refine Zc ?_)
     exact Z8 (k:=5) 6 kR (results100) rfl rfl rfl (Xa rfl) dC r5.s rfl
   · try (exact UV rfl hb16)
theorem Zev (a b:Aut) (ha:a.moves.length≤1000000) (hb:b.moves.length≤1000000):AF prog 100 [pInt 5,ZJ a,ZJ b] (· =resW (Ws 5 a b)):=by
 rw [show Ws 5 a b=LF a b from rfl]
 obtain ⟨p0,p1,p2,p3,p4,E,r5,hres⟩:=ZaI (LF a b)
 have hj:=ZbS a b ha hb
 rw [hres] at hj ⊢
 obtain ⟨o0,o1,o2,o3,o4⟩:=r5.o
 refine AF.of_body 28 func100 rfl ntmps100 (Xa rfl) ?_
 intro w0 M0 vs hl hv
 obtain ⟨v0,v1,v2,rfl⟩:=Jx hl
 obtain rfl:=hv 0 _ _ rfl rfl
 clear hl hv
 refine Ze ?_
 (refine ZB 4 5 fun h4=>?_<;>refine ZB 5 5 fun h5=>?_<;>refine Zv [(.int .i64 0),(.int .i64 0),(.slice none 0 0),(.slice none 0 0),(.slice none 0 0)] 5 6 Je fun h6=>?_<;>refine xL 7 Za ?_<;>refine Zk ?_)
 (refine xL 8 Zb ?_<;>refine Zk ?_)
 (refine xL 10 Yf (xL 9 Za ?_)<;>refine Zc ?_)
 refine cX ?_ ?_<;>intro hb9
 · try (exact UV hb9 dC)
 · try (exact UV rfl hb9)
   refine Ze ?_;(refine xL 17 Yf (xL 16 Za ?_)<;>refine Zc ?_)
   refine cX ?_ ?_<;>intro hb16
   · try (exact UV hb16 dC)
   · try (exact UV rfl hb16)
     refine Ze ?_;((refine yL 23 (Zs 4 Yx) fun v23 h=>?_;cases h)<;>(refine yL 24 (Zs 5 Yx) fun v24 h=>?_;cases h)<;>(refine cP 25 (cA (call147) hj) (fun va25 vb25 hva25 hvb25=>?_) (hsh:=r5.t E);cases hvb25)<;>refine xL 26 Zi (xL 27 Zi ?_)<;>refine Zz 6 Yx ?_<;>refine xL 7 Za ?_<;>refine Zc ?_)
     exact Z8 (k:=5) 6 kR (results100) rfl rfl rfl (Xa rfl) dC r5.s rfl
set_option maxHeartbeats 1000000 in
theorem ZiH {acts:List ByteArray} (a b:Aut) (ha:IsMin a∧a.syms=acts.length) (hb:IsMin b∧b.syms=acts.length):AF prog 99 [ZJ a,ZJ b] (· =resW (Ws 6 a b)):=by
 rw [show Ws 6 a b=Jq a b from rfl]
 have mX:=OJ hb ha
 have la:=ha.1.aok.ml
 have lb:=hb.1.aok.ml
 obtain ⟨p0,p1,p2,p3,p4,E,r5,hres,hc⟩:=Hw (okO (GK b a))
 have hj:=Rh b a oM oM
 rw [mX.lim,hres] at hj
 obtain ⟨o0,o1,o2,o3,o4⟩:=r5.o
 refine AF.of_body 33 func99 rfl ntmps99 (Xa rfl) ?_
 intro w0 M0 vs hl hv
 obtain ⟨v0,v1,rfl⟩:=YX hl
 clear hl hv
 refine Ze ?_
 (refine ZB 2 5 fun h2=>?_<;>refine ZB 3 5 fun h3=>?_<;>refine Zv [(.int .i64 0),(.int .i64 0),(.slice none 0 0),(.slice none 0 0),(.slice none 0 0)] 5 4 Je fun h4=>?_<;>refine xL 5 Za ?_<;>refine Zk ?_)
 ((refine yL 10 (Zs 3 Yx) fun v10 h=>?_;cases h)<;>(refine yL 11 (Zs 2 Yx) fun v11 h=>?_;cases h)<;>(refine cP 12 (cA (call144) hj) (fun va12 vb12 hva12 hvb12=>?_) (hsh:=r5.t E);cases hvb12)<;>refine xL 9 Zb (xL 13 Zi (xL 14 Zi ?_))<;>refine Zv [(.int .i64 0),(.int .i64 0),(.slice none 0 0),(.slice none 0 0),(.slice none 0 0)] 5 6 Je fun h6=>?_<;>refine Zz 6 Yx ?_<;>refine xL 7 Za ?_<;>refine Zk ?_)
 (refine xL 15 Zb (xL 16 Yn ?_)<;>refine Zc ?_)
 refine cX ?_ ?_<;>intro hb16
 · first|exact bN hb16|(
 have hn:okO (GK b a)=none∧E=13:=by
  rcases hc with h|⟨A,_,h,_⟩
  · exact h
  · exact UV h (by simpa using hb16)
 obtain ⟨hn,rfl⟩:=hn;(have hlp:Jq a b= .error 13:=by unfold Jq;rw [mX.lim,hn];rfl);rw [hlp];refine Ze ?_;(refine xL 17 (ZO Dy) (xL 18 Zb ?_)<;>refine Zz 4 Yx ?_<;>refine xL 5 Za ?_<;>refine Zc ?_)
 exact Z8 (k:=5) 4 kR (results99) rfl rfl rfl (Xa rfl) dC rfl rfl)
 · first |exact bN hb16|(
 have hC:∃C,okO (GK b a)=some C∧E=0∧p0=pInt C.n∧p1=pInt C.syms∧p2=pInts C.start∧p3=pInts C.fin∧p4=pMvs C.moves:=by
  rcases hc with ⟨_,h⟩|h
  · exact UV h (by simp at hb16;omega)
  · exact h
 clear hc;obtain ⟨C,hC,rfl,rfl,rfl,rfl,rfl,rfl⟩:=hC;obtain ⟨hC1,hC2⟩:=mX.ok hC;have mS:=RJ hC2.1 hC2.2;have lC:=hC2.1.aok.ml;obtain ⟨p0,p1,p2,p3,p4,E,r5,hres,hc⟩:=Hw (okO (JL C));have hj:=ZiA C oM;rw [mS.lim,hres] at hj;obtain ⟨o0,o1,o2,o3,o4⟩:=r5.o;refine Ze ?_;((refine yL 20 (Zs 6 Yx) fun v20 h=>?_;cases h)<;>(refine cP 21 (cA (call145) hj) (fun va21 vb21 hva21 hvb21=>?_) (hsh:=r5.t E);cases hvb21)<;>refine xL 19 Zb (xL 22 Zi (xL 23 Zi ?_))<;>refine Zv [(.int .i64 0),(.int .i64 0),(.slice none 0 0),(.slice none 0 0),(.slice none 0 0)] 5 8 Je fun h8=>?_<;>refine Zz 8 Yx ?_<;>refine xL 7 Za ?_<;>refine Zk ?_)
 (refine xL 24 Zb (xL 25 Yn ?_)<;>refine Zc ?_)
 refine cX ?_ ?_<;>intro hb25
 · first|exact bN hb25|(
 have hn:okO (JL C)=none∧E=13:=by
  rcases hc with h|⟨A,_,h,_⟩
  · exact h
  · exact UV h (by simpa using hb25)
 obtain ⟨hn,rfl⟩:=hn;(have hlp:Jq a b= .error 13:=by unfold Jq;rw [hC1];dsimp only;rw [mS.lim,hn];rfl);rw [hlp];refine Ze ?_;(refine xL 26 (ZO Dy) (xL 27 Zb ?_)<;>refine Zz 4 Yx ?_<;>refine xL 5 Za ?_<;>refine Zc ?_)
 exact Z8 (k:=5) 4 kR (results99) rfl rfl rfl (Xa rfl) dC rfl rfl)
 · first|exact bN hb25|(
 have hS:∃S,okO (JL C)=some S∧E=0∧p0=pInt S.n∧p1=pInt S.syms∧p2=pInts S.start∧p3=pInts S.fin∧p4=pMvs S.moves:=by
  rcases hc with ⟨_,h⟩|h
  · exact UV h (by simp at hb25;omega)
  · exact h
 clear hc;obtain ⟨S,hS,rfl,rfl,rfl,rfl,rfl,rfl⟩:=hS;obtain ⟨hS1,hS2⟩:=mS.ok hS;have mT:=OJ ha hS2;have lS:=hS2.1.aok.ml;(have hlp:Jq a b=GK a S:=by unfold Jq;rw [hC1];dsimp only;rw [hS1]);rw [hlp];obtain ⟨p0,p1,p2,p3,p4,E,r5,hres,hc⟩:=Hw (okO (GK a S));have hj:=Rh a S oM oM;rw [mT.lim,hres] at hj;rw [mT.lim,hres];obtain ⟨o0,o1,o2,o3,o4⟩:=r5.o;refine Ze ?_;((refine yL 28 (Zs 2 Yx) fun v28 h=>?_;cases h)<;>(refine yL 29 (Zs 8 Yx) fun v29 h=>?_;cases h)<;>(refine cP 30 (cA (call144) hj) (fun va30 vb30 hva30 hvb30=>?_) (hsh:=r5.t E);cases hvb30)<;>refine xL 31 Zi (xL 32 Zi ?_)<;>refine Zz 4 Yx ?_<;>refine xL 5 Za ?_<;>refine Zc ?_)
 exact Z8 (k:=5) 4 kR (results99) rfl rfl rfl (Xa rfl) dC r5.s rfl))
theorem CJ:AggT prog 24 3=true:=by kernel_rfl
theorem Wi:AggT prog 39 5=true:=by kernel_rfl
theorem ZiI:ElT prog 36 3 1 8 (.int .i64 0):=⟨underlying36,by kernel_rfl,rfl,dC⟩
theorem K6:FldT prog 24 0 0=true:=by kernel_rfl
theorem Zew:FldT prog 24 1 1=true:=by kernel_rfl
theorem Rl:FldT prog 24 2 2=true:=by kernel_rfl
theorem Dz:NoAgg prog 22=true:=by kernel_rfl
theorem LM:NoAgg prog 3=true:=by kernel_rfl
theorem Zlr:NoAgg prog 9=true:=by kernel_rfl
theorem DC:SlT prog 22 24 3=true:=by kernel_rfl
theorem ZaK:SlT prog 27 9 1=true:=by kernel_rfl
theorem ZaL:W1 prog 39=some ((.agg #[(.int .i64 0),(.int .i64 0),(.slice none 0 0),(.slice none 0 0),(.slice none 0 0)]),([0,1,2,3,4]:List Nat).map fun o=>(o,1)):=by kernel_rfl
theorem TN:ZeroT prog 39 (.agg #[(.int .i64 0),(.int .i64 0),(.slice none 0 0),(.slice none 0 0),(.slice none 0 0)]):=by unfold ZeroT;kernel_rfl
structure RS (r:Option Aut) (p0 p1 p2 p3 p4:PV) (E:Int):Prop where
 r5:R5 p0 p1 p2 p3 p4
 eq:resW (lim r)= .tup [.agg [p0,p1,p2,p3,p4],pInt E]
 hc:(r=none∧E=13)∨∃A,r=some A∧E=0∧p0=pInt A.n∧p1=pInt A.syms∧p2=pInts A.start∧p3=pInts A.fin∧p4=pMvs A.moves
theorem CK (r:Option Aut):∃p0 p1 p2 p3 p4 E,RS r p0 p1 p2 p3 p4 E:=by
 obtain ⟨p0,p1,p2,p3,p4,E,r5,hres,hc⟩:=Hw r
 exact ⟨p0,p1,p2,p3,p4,E,r5,hres,hc⟩
theorem RS.no {r:Option Aut} {p0 p1 p2 p3 p4:PV} {E:Int} (h:RS r p0 p1 p2 p3 p4 E) (hE:¬E=0):r=none∧E=13:=by
 rcases h.hc with h1|⟨A,_,h1,_⟩
 · exact h1
 · exact UV h1 hE
theorem RS.yes {r:Option Aut} {p0 p1 p2 p3 p4:PV} {E:Int} (h:RS r p0 p1 p2 p3 p4 E) (hE:E=0):∃A,r=some A∧E=0∧p0=pInt A.n∧p1=pInt A.syms∧p2=pInts A.start∧p3=pInts A.fin∧p4=pMvs A.moves:=by
 rcases h.hc with ⟨_,h1⟩|h1
 · omega
 · exact h1
theorem CM {acts:List ByteArray} {o:Int} {l:List Nd} {i:Nat} (h1:1≤i) (hl:1≤l.length) (h:foldX o ((l.take i).map (bldT acts))=none):foldX o (l.map (bldT acts))=none:=by
 have:=ZaB (n:=(l.drop i).map (bldT acts)) (by cases l with|nil=>simp at hl|cons x l=>cases i with|zero=>omega|succ i=>simp) h
 rwa [←Xs,VF] at this
theorem CN {acts:List ByteArray} {o:Int} {l:List Nd} {i:Nat} {x:Nd} {R B:Aut} (h1:1≤i) (hx:l[i]? =some x) (hR:foldX o ((l.take i).map (bldT acts))=some R) (hB:bldT acts x=some B):foldX o ((l.take (i+1)).map (bldT acts))=okO (Ws o R B):=by
 have hne:(l.take i).map (bldT acts)≠[]:=by
  cases l with
  |nil=>simp at hx
  | cons y l=>cases i with
    |zero=>omega
    |succ i=>simp
 rw [ZR hx,Xs,UI,Co hne,hR,hB];rfl
theorem ZbT (acts:List ByteArray) (a:ByteArray):AF prog 56 [.agg [pInt 1,Yv a,Wl []],YF acts] (· =resW (Ji (G1 acts.length (WM acts a)))):=by
 obtain ⟨p0,p1,p2,p3,p4,E,r5,hres⟩:=ZaI (Ji (Hj [WM acts a] acts.length))
 have hj:=ZaJ [WM acts a] acts.length (Xh _)
 rw [hres] at hj
 rw [←ZiF,hres]
 obtain ⟨o0,o1,o2,o3,o4⟩:=r5.o
 refine AF.of_body 88 func56 rfl ntmps56 (Xa rfl) ?_
 intro w0 M0 vs hl hv
 obtain ⟨v0,v1,rfl⟩:=YX hl
 clear hl hv
 refine Ze ?_
 (refine ZB 2 3 fun h2=>?_<;>refine Zv [(.int .i64 0),(.int .i64 0),(.slice none 0 0),(.slice none 0 0),(.slice none 0 0)] 5 4 TN fun h4=>?_<;>refine xL 5 Za ?_<;>refine Zk ?_)
 (refine xL 11 (Zd 2 K6) ?_<;>(refine yL 12 (Zl 2 LM) fun v12 h=>?_;cases h)<;>refine xL 13 Yf ?_<;>refine Zc ?_)
 refine cX ?_ ?_<;>intro hb13
 · exact UV hb13 dC
 · refine Ze ?_;(refine xL 19 (Zd 2 K6) ?_<;>(refine yL 20 (Zl 2 LM) fun v20 h=>?_;cases h)<;>refine xL 21 Yf ?_<;>refine Zc ?_)
   refine cX ?_ ?_<;>intro hb21
   · refine Ze ?_;(refine xL 22 Zb (xL 23 (Zd 2 Zew) ?_)<;>(refine yL 24 (Zl 2 Zlr) fun v24 h=>?_;cases h)<;>(refine cS 25 (cA call22 (Zcf acts a)) fun v25 h=>?_;cases h)<;>(refine ZM (kk:=1) 26 ZiI fun h26 ho26=>?_;refine Zu (En.freeze (l:=26) (t:=26) rfl rfl) fun _=>?_;refine Zu (Wg (t:=26) (p':=pInts [WM acts a]) rfl rfl) fun _=>?_)<;>refine xL 27 Zb (xL 28 (ZW ZaK) ?_)<;>(refine cP 29 (cA (call98) hj) (fun va29 vb29 hva29 hvb29=>?_) (hsh:=r5.t E);cases hvb29)<;>refine xL 30 Zi (xL 31 Zi ?_)<;>refine Zz 4 Wi ?_<;>refine xL 5 Za ?_<;>refine Zc ?_)
     exact Z8 (k:=5) 4 kR (results56) rfl rfl rfl (Xa rfl) dC r5.s rfl
   · exact UV rfl hb21
theorem ZbU (acts:List ByteArray) (a:ByteArray):AF prog 56 [.agg [pInt 2,Yv a,Wl []],YF acts] (· =resW (Ji (R4 acts.length))):=by
 obtain ⟨p0,p1,p2,p3,p4,E,r5,hres⟩:=ZaI (Ji (Hj [] acts.length))
 have hj:=AF.nil0 (ZaJ [] acts.length (Xd _))
 rw [hres] at hj
 rw [←Zlo,hres]
 obtain ⟨o0,o1,o2,o3,o4⟩:=r5.o
 refine AF.of_body 88 func56 rfl ntmps56 (Xa rfl) ?_
 intro w0 M0 vs hl hv
 obtain ⟨v0,v1,rfl⟩:=YX hl
 clear hl hv
 refine Ze ?_
 (refine ZB 2 3 fun h2=>?_<;>refine Zv [(.int .i64 0),(.int .i64 0),(.slice none 0 0),(.slice none 0 0),(.slice none 0 0)] 5 4 TN fun h4=>?_<;>refine xL 5 Za ?_<;>refine Zk ?_)
 (refine xL 11 (Zd 2 K6) ?_<;>(refine yL 12 (Zl 2 LM) fun v12 h=>?_;cases h)<;>refine xL 13 Yf ?_<;>refine Zc ?_)
 refine cX ?_ ?_<;>intro hb13
 · refine Ze ?_;(refine xL 14 Zb (xL 15 (ZW ZaK) ?_)<;>(refine cP 16 (cA (call98) hj) (fun va16 vb16 hva16 hvb16=>?_) (hsh:=r5.t E);cases hvb16)<;>refine xL 17 Zi (xL 18 Zi ?_)<;>refine Zz 4 Wi ?_<;>refine xL 5 Za ?_<;>refine Zc ?_)
   exact Z8 (k:=5) 4 kR (results56) rfl rfl rfl (Xa rfl) dC r5.s rfl
 · exact UV rfl hb13
set_option maxHeartbeats 4000000 in
theorem OM (o : Int) (ho:o=3∨o=4∨o=5∨o=6) (acts:List ByteArray) (a:ByteArray) (x0:Nd) (l0 l:List Nd) (hl0:l=x0::l0) (hl:l.length≤1000000) (ih:∀x∈l,AF prog 56 [pTr x,YF acts] (· =resW (lim (bldT acts x)))) (hb:∀x∈l,BldOk acts.length (bldT acts x)):AF prog 56 [.agg [pInt o,Yv a,Wl l],YF acts] (· =resW (lim (foldX o (l.map (bldT acts))))):=by
 have hlen0:l.length=l0.length+1:=by rw [hl0];rfl
 have hx0:l[0]? =some x0:=by rw [hl0];rfl
 have e1:((LN l).drop (0*3)).take 3=[pInt x0.op,Yv x0.act,Wl x0.l]:=KN hx0
 have e2:=J2 hx0
 obtain ⟨p0,p1,p2,p3,p4,E,hR0⟩:=CK (bldT acts x0)
 have hxa:=ih x0 (Xc hx0)
 rw [hR0.eq] at hxa
 have r5:=hR0.r5
 obtain ⟨o0,o1,o2,o3,o4⟩:=hR0.r5.o
 have hRS:RS (foldX o ((l.take 1).map (bldT acts))) p0 p1 p2 p3 p4 E:=by rw [hl0];exact hR0
 have hok:∀i,BldOk acts.length (foldX o ((l.take i).map (bldT acts))):=fun i=>ZdH o fun r hr=>by
  obtain ⟨y,hy,rfl⟩:=Xl.1 hr;exact hb y (VK hy)
 refine AF.of_body 88 func56 rfl ntmps56 (Xa rfl) ?_
 intro w0 M0 vs hl hv
 obtain ⟨v0,v1,rfl⟩:=YX hl
 clear hl hv
 refine Ze ?_
 (refine ZB 2 3 fun h2=>?_<;>refine Zv [(.int .i64 0),(.int .i64 0),(.slice none 0 0),(.slice none 0 0),(.slice none 0 0)] 5 4 TN fun h4=>?_<;>refine xL 5 Za ?_<;>refine Zk ?_)
 (refine xL 11 (Zd 2 K6) ?_<;>(refine yL 12 (Zl 2 LM) fun v12 h=>?_;cases h)<;>refine xL 13 Yf ?_<;>refine Zc ?_)
 refine cX ?_ ?_<;>intro hb13
 · exact UV (show o=2 by simpa using hb13) oM
 · refine Ze ?_;(refine xL 19 (Zd 2 K6) ?_<;>(refine yL 20 (Zl 2 LM) fun v20 h=>?_;cases h)<;>refine xL 21 Yf ?_<;>refine Zc ?_)
   refine cX ?_ ?_<;>intro hb21
   · exact UV (show o=1 by simpa using hb21) oM
   · refine Ze ?_;(refine xL 33 (Zd 2 Rl) ?_<;>(refine yL 34 (Zl 2 Dz) fun v34 h=>?_;cases h)<;>refine xL 35 (ZH DC) ?_<;>(refine yL 36 (WA CJ) fun v36 h=>?_;cases h)<;>refine xL 37 Zb ?_<;>(refine cP 38 (cA (call56) hxa) (fun va38 vb38 hva38 hvb38=>?_) (hsh:=r5.t E);cases hvb38)<;>refine xL 32 Zb (xL 39 Zi (xL 40 Zi ?_))<;>refine Zv [(.int .i64 0),(.int .i64 0),(.slice none 0 0),(.slice none 0 0),(.slice none 0 0)] 5 6 TN fun h6=>?_<;>refine Zz 6 Wi ?_<;>refine xL 7 Za ?_<;>refine Zk ?_)
     (refine xL 8 Za ?_<;>refine Zc ?_)
     clear r5 o0 o1 o2 o3 o4 hxa e1 e2 hR0;refine ZE (ι:={q:Nat×(PV×PV×PV×PV×PV)×Int//1≤q.1∧q.1≤l.length∧RS (foldX o ((l.take q.1).map (bldT acts))) q.2.1.1 q.2.1.2.1 q.2.1.2.2.1 q.2.1.2.2.2.1 q.2.1.2.2.2.2 q.2.2}) (fun k=>⟨[(1,_,_),(2,_,_),(4,_,_),(5,_,_),(6,_,_),(7, .int .i64 k.1.2.2,pInt k.1.2.2),(8, .int .i64 k.1.1,pInt k.1.1)],[(2,_,_),(4,_,_),(6,h6, .own 39 5 1 [k.1.2.1.1,k.1.2.1.2.1,k.1.2.1.2.2.1,k.1.2.1.2.2.2.1,k.1.2.1.2.2.2.2])]⟩) (fun k=>l.length-k.1.1) ⟨(1,(p0,p1,p2,p3,p4),E),Xh _,by show 1≤l.length;omega,hRS⟩ (fun a w H=>H.weaken ⟨rfl,rfl,rfl,rfl,rfl,rfl,rfl,trivial⟩ ⟨rfl,rfl,rfl,trivial⟩) ?_;rintro ⟨⟨i,⟨p0,p1,p2,p3,p4⟩,E⟩,hi1,hi2,hR⟩;dsimp only;dsimp only at hi1 hi2 hR;obtain ⟨o0,o1,o2,o3,o4⟩:=hR.r5.o;refine Ze ?_;(refine xL 41 Zb (xL 42 (Zd 2 Rl) ?_)<;>(refine yL 43 (Zl 2 Dz) fun v43 h=>?_;cases h)<;>refine xL 44 (ZW DC) (xL 45 ZQ (xL 46 Zb ?_))<;>(refine bLd 46 (fun hb46=>?_) (fun hb46=>?_)<;>(first|refine kL 47 ?_|refine xL 47 Zb ?_))<;>(first|refine kL 48 ?_|refine xL 48 Yf ?_)<;>refine xL 49 ZG ?_<;>refine Zc ?_)<;>(
 refine cX ?_ ?_<;>intro hb49
 · first | exact bN hb49|(
 obtain ⟨R,hRe,rfl,rfl,rfl,rfl,rfl,rfl⟩:=hR.yes hb49;have hRm:=hok i R hRe;have lR:=hRm.1.aok.ml;obtain ⟨x,hx⟩:=Zw (show i<l.length by omega);have e1:((LN l).drop (i*3)).take 3=[pInt x.op,Yv x.act,Wl x.l]:=KN hx;have e2:=J2 hx;obtain ⟨q0,q1,q2,q3,q4,F,hQ⟩:=CK (bldT acts x);have hxa:=ih x (Xc hx);rw [hQ.eq] at hxa;have r5:=hQ.r5;obtain ⟨u0,u1,u2,u3,u4⟩:=r5.o;refine Ze ?_;(refine xL 53 (Zd 2 Rl) ?_<;>(refine yL 54 (Zl 2 Dz) fun v54 h=>?_;cases h)<;>refine xL 55 Zb (xL 56 (ZH DC) ?_)<;>(refine yL 57 (WA CJ) fun v57 h=>?_;cases h)<;>refine xL 58 Zb ?_<;>(refine cP 59 (cA (call56) hxa) (fun va59 vb59 hva59 hvb59=>?_) (hsh:=r5.t F);cases hvb59)<;>refine xL 52 Zb (xL 60 Zi (xL 61 Zi ?_))<;>refine Zv [(.int .i64 0),(.int .i64 0),(.slice none 0 0),(.slice none 0 0),(.slice none 0 0)] 5 9 TN fun h9=>?_<;>refine Zz 9 Wi ?_<;>refine xL 10 Za ?_<;>refine Zk ?_)
 (refine xL 62 Zb (xL 63 Yn ?_)<;>refine Zc ?_)
 refine cX ?_ ?_<;>intro hb63
 · first|exact bN hb63|(
 obtain ⟨hn,rfl⟩:=hQ.no hb63;have hF:foldX o (l.map (bldT acts))=none:=Di (Xl.2 ⟨x,Xc hx,hn⟩);rw [hF];refine Ze ?_;(refine xL 64 (ZO ZaL) (xL 65 Zb ?_)<;>refine Zz 4 Wi ?_<;>refine xL 5 Za ?_<;>refine Zc ?_)
 exact Z8 (k:=5) 4 kR (results56) rfl rfl rfl (Xa rfl) dC rfl rfl)
 · first |exact bN hb63|(
 obtain ⟨B,hBe,rfl,rfl,rfl,rfl,rfl,rfl⟩:=hQ.yes (by simpa using hb63);have hBm:=hb x (Xc hx) B hBe;have lB:=hBm.1.aok.ml;have hnx:=CN (o:=o) hi1 hx hRe hBe;obtain ⟨t0,t1,t2,t3,t4,G,hT⟩:=CK (okO (Ws o R B));have hjo:=congrArg resW (ZgZ o hRm hBm);rw [hT.eq] at hjo;have s5:=hT.r5;obtain ⟨z0,z1,z2,z3,z4⟩:=s5.o;rw [←hnx] at hT;refine Ze ?_;(refine xL 66 (Zd 2 K6) ?_<;>(refine yL 67 (Zl 2 LM) fun v67 h=>?_;cases h)<;>refine xL 68 Yf ?_<;>refine Zc ?_)
 refine cX ?_ ?_<;>intro hb68
 · first|exact bN hb68|(
 (have hj:AF prog 99 [ZJ R,ZJ B] (· =resW (Ws o R B)):=by rw [show o=6 by simpa using hb68];exact ZiH R B hRm hBm);rw [hjo] at hj;refine Ze ?_;((refine yL 70 (Zs 6 Wi) fun v70 h=>?_;cases h)<;>(refine yL 71 (Zs 9 Wi) fun v71 h=>?_;cases h)<;>(refine cP 72 (cA (call99) hj) (fun va72 vb72 hva72 hvb72=>?_) (hsh:=s5.t G);cases hvb72)<;>refine xL 69 Zb (xL 73 Zi (xL 74 Zi ?_))<;>refine Zz 6 Wi ?_<;>refine xL 7 Za ?_<;>refine Zk ?_)
 (refine xL 50 Zb (xL 51 ZK (xL 8 Za ?_))<;>refine Zc ?_)
 refine Zn (
  ⟨(i+1,(t0,t1,t2,t3,t4),G),by dsimp only;omega,Zh hx,hT⟩
  ) (by dsimp only;omega) ⟨rfl,rfl,rfl,rfl,rfl,rfl,rfl,trivial⟩ ⟨rfl,rfl,rfl,trivial⟩)
 · first|exact bN hb68|(
 have hj:AF prog 100 [pInt o,ZJ R,ZJ B] (· =resW (Ws o R B)):=by
  (have h6:¬o=6:=by simpa using hb68);have h3:o=3∨o=4∨o=5:=oM;clear hjo hT hR;rcases h3 with rfl|rfl|rfl
  · exact Zet R B oM oM
  · exact Zeu R B oM oM
  · exact Zev R B oM oM
 rw [hjo] at hj;refine Ze ?_;(refine xL 76 (Zd 2 K6) ?_<;>(refine yL 77 (Zl 2 LM) fun v77 h=>?_;cases h)<;>(refine yL 78 (Zs 6 Wi) fun v78 h=>?_;cases h)<;>(refine yL 79 (Zs 9 Wi) fun v79 h=>?_;cases h)<;>(refine cP 80 (cA (call100) hj) (fun va80 vb80 hva80 hvb80=>?_) (hsh:=s5.t G);cases hvb80)<;>refine xL 75 Zb (xL 81 Zi (xL 82 Zi ?_))<;>refine Zz 6 Wi ?_<;>refine xL 7 Za ?_<;>refine Zk ?_)
 (refine xL 50 Zb (xL 51 ZK (xL 8 Za ?_))<;>refine Zc ?_)
 refine Zn (
  ⟨(i+1,(t0,t1,t2,t3,t4),G),by dsimp only;omega,Zh hx,hT⟩
  ) (by dsimp only;omega) ⟨rfl,rfl,rfl,rfl,rfl,rfl,rfl,trivial⟩ ⟨rfl,rfl,rfl,trivial⟩)))
 · first|exact bN hb49|(
 refine Ze ?_;(refine xL 83 Zb (xL 84 Yn ?_)<;>refine Zc ?_)
 refine cX ?_ ?_<;>intro hb84
 · first|exact bN hb84|(
 obtain ⟨hn,rfl⟩:=hR.no hb84;rw [CM hi1 oM hn];refine Ze ?_;(refine xL 85 (ZO ZaL) (xL 86 Zb ?_)<;>refine Zz 4 Wi ?_<;>refine xL 5 Za ?_<;>refine Zc ?_)
 exact Z8 (k:=5) 4 kR (results56) rfl rfl rfl (Xa rfl) dC rfl rfl)
 · first|exact bN hb84|(
 have hil:l.length≤i:=by first|omega|exact UV (by simpa using hb84) hb49
 have hR2:=hR.eq;rw [Xj hil] at hR2;rw [hR2];obtain ⟨R,hRe,rfl,rfl,rfl,rfl,rfl,rfl⟩:=hR.yes (by simpa using hb84);refine Ze ?_;((refine yL 87 (Zs 6 Wi) fun v87 h=>?_;cases h)<;>refine Zz 4 Wi ?_<;>refine xL 5 Za ?_<;>refine Zc ?_)
 exact Z8 (k:=5) 4 kR (results56) rfl rfl rfl (Xa rfl) dC rfl rfl)))
theorem CO (acts:List ByteArray) (hm:acts.length≤40):∀t:Nd,okT t=true→szT t≤1000→(∀s∈Y2 t,s∈acts)→AF prog 56 [pTr t,YF acts] (· =resW (lim (bldT acts t))):=Nd.ind fun o a l ih hok hsz ha=>by
 have e0:pTr (.mk o a l)= .agg [pInt o,Yv a,Wl l]:=rfl
 rw [e0]
 obtain ⟨hr,hp⟩:=Js.1 hok
 have hops:=Rs hr
 simp only [Nd.op,Nd.l] at hops hp
 rw [szT] at hsz
 have hlz:=Rt l
 have hpa:∀x∈l,o≠1→∀s∈Y2 x,s∈acts:=fun x hx h1 s hs=>ha s (by rw [Y2,UT h1];exact SD.2 ⟨x,hx,hs⟩)
 have hih:o≠1→∀x∈l,AF prog 56 [pTr x,YF acts] (· =resW (lim (bldT acts x))):=fun h1 x hx=>ih x hx (hp x hx) (by have:=LW hx;omega) (hpa x hx h1)
 have hbo:o≠1→∀x∈l,BldOk acts.length (bldT acts x):=fun h1 x hx=>ZkD hm x (hpa x hx h1)
 by_cases h1:o=1
 · subst h1;have hmem:a∈acts:=ha a (by rw [Y2,UU rfl];exact Xm ..);obtain ⟨i,h2,h3,_⟩:=LI hmem;have hi:=Zh h3;have hM:=GM (m:=acts.length) (Oz hm (k:=WM acts a) (by rw [h2];omega)) rfl;have hl:l=[]:=by unfold rightT at hr;simp [Nd.op,Nd.l] at hr;exact hr.1
   subst hl;have hb:bldT acts (.mk 1 a [])=okO (Ji (G1 acts.length (WM acts a))):=by rw [bldT,UU rfl];rfl
   rw [hb,←hM.lim];exact ZbT acts a
 by_cases h2:o=2
 · subst h2;have hM:=GM (m:=acts.length) (Cq hm) rfl;have hl:l=[]:=by unfold rightT at hr;simp [Nd.op,Nd.l] at hr;exact hr.1
   subst hl;have hb:bldT acts (.mk 2 a [])=okO (Ji (R4 acts.length)):=by rw [bldT,UT dC,UU rfl]
   rw [hb,←hM.lim];exact ZbU acts a
 rw [ZfJ acts o a l h1 h2]
 by_cases h6:o=6
 · subst h6;obtain ⟨x,y,hxy⟩:=Dl hr;exact OM 6 oM acts a x [y] l hxy oM (hih h1) (hbo h1)
 have ho:o=3∨o=4∨o=5:=oM
 obtain ⟨x,m,hxm⟩:=Ct ho hr
 exact OM o oM acts a x m l hxm oM (hih h1) (hbo h1)
end Go.Proofs.YtgfabnhpllkebaaGreatDoor
