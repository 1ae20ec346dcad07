/-
  Walks of functions and plain laws of the chapter, as the claim needs them.
-/
import Derived.Test.YtgfabnhpllkebaaGreatDoorPo12
import Derived.Test.YtgfabnhpllkebaaGreatDoorPo08
import Derived.Test.YtgfabnhpllkebaaGreatDoorPo04
import Derived.Test.YtgfabnhpllkebaaGreatDoorPo06
import Derived.Test.YtgfabnhpllkebaaGreatDoorPo10
import Derived.Test.YtgfabnhpllkebaaGreatDoorPo05
import Derived.Test.YtgfabnhpllkebaaGreatDoorPo07
import Derived.Test.YtgfabnhpllkebaaGreatDoorPo02
import Derived.Test.YtgfabnhpllkebaaGreatDoorPo03
import Derived.Test.YtgfabnhpllkebaaGreatDoorPo09
import Derived.Test.YtgfabnhpllkebaaGreatDoorPo01
namespace Go.Proofs.YtgfabnhpllkebaaGreatDoor
open Go.RowKit Go.Cb Go.En Tryz
set_option linter.all false
set_option maxRecDepth 100000
theorem KX:AggT prog 24 3=true:=by kernel_rfl
theorem KY:AggT prog 39 5=true:=by kernel_rfl
theorem Zav:ElT prog 36 3 1 8 (.int .i64 0):=⟨underlying36,by kernel_rfl,rfl,dC⟩
theorem Zk7:NoAgg prog 9=true:=by kernel_rfl
theorem Dl:SlT prog 27 9 1=true:=by kernel_rfl
theorem Zaw:WU prog 39=some ((.agg #[(.int .i64 0),(.int .i64 0),(.slice none 0 0),(.slice none 0 0),(.slice none 0 0)]),([0,1,2,3,4]:List Nat).map fun o=>(o,1)):=by kernel_rfl
theorem Gf:ZeroT prog 39 (.agg #[(.int .i64 0),(.int .i64 0),(.slice none 0 0),(.slice none 0 0),(.slice none 0 0)]):=by unfold ZeroT;kernel_rfl
theorem Zig (t:Nd) (hf:FitT t) {e:Int} (he:¬e=0) (hR:actR t=([],e)):AF prog 66 [pTr t] (· = .tup [KL,Yq [],pInt e]):=by
 have e0:pTr t= .agg [pInt t.op,Yl t.act,Y0 t.l]:=rfl
 have hA:=ZfU t hf
 rw [hR] at hA
 dsimp only at hA
 rw [e0] at hA ⊢
 refine AF.of_body 26 func66 rfl ntmps66 (Xa rfl) ?_
 intro w0 M0 vs hl hv
 obtain ⟨v0,rfl⟩:=Wl hl
 clear hl hv
 refine Ze ?_
 (refine ZB 1 3 fun h1=>?_<;>refine Zw [(.int .i64 0),(.int .i64 0),(.slice none 0 0),(.slice none 0 0),(.slice none 0 0)] 5 2 Gf fun h2=>?_<;>refine xL 3 Za (xL 4 Za ?_)<;>refine Zi ?_)
 ((refine yL 9 (Zu 1 KX) fun v9 h=>?_;cases h)<;>(refine cP 10 (cA call25 (hA)) fun va10 vb10 hva10 h=>?_;cases h)<;>refine xL 8 Zb (xL 11 Zj (xL 12 Zj (xL 5 Za (xL 6 Za ?_))))<;>refine Zi ?_)
 (refine xL 13 Zb (xL 14 Yv ?_)<;>refine Zc ?_)
 refine cX ?_ ?_<;>intro hb14
 · refine Ze ?_;(refine xL 15 (ZL Zaw) (xL 16 Zb ?_)<;>refine ZE 2 KY ?_<;>refine xL 3 Za (xL 4 Za ?_)<;>refine Zc ?_)
   refine Y3 (Ks (t:=3) rfl) fun _=>?_;exact Hw (k:=5) 2 kR (results66) rfl rfl rfl rfl (Xa rfl) dC rfl rfl
 · exact UU (by simpa using hb14) he
theorem Zd8 (t:Nd) (hf:FitT t) {L:List ByteArray} (hR:actR t=(L,0)) {p0 p1 p2 p3 p4:PV} {E:Int} (hS:RS (bldT L t) p0 p1 p2 p3 p4 E):AF prog 66 [pTr t] (· = .tup [.agg [p0,p1,p2,p3,p4],Yq L,pInt E]):=by
 have e0:pTr t= .agg [pInt t.op,Yl t.act,Y0 t.l]:=rfl
 have hA:=ZfU t hf
 obtain ⟨hv,hL,hm,hn,hmem⟩:=Zbs (t:=t) (by rw [hR])
 rw [hR] at hA hm hmem
 dsimp only at hA hm hmem
 have hj:=De L hm t (Sj hv) (by have:=RV hv;omega) (fun s hs=>(hmem s).2 hs)
 rw [hS.eq] at hj
 rw [e0] at hA hj ⊢
 have r5:=hS.r5
 obtain ⟨o0,o1,o2,o3,o4⟩:=r5.o
 refine AF.of_body 26 func66 rfl ntmps66 (Xa rfl) ?_
 intro w0 M0 vs hl hv
 obtain ⟨v0,rfl⟩:=Wl hl
 clear hl hv
 refine Ze ?_
 (refine ZB 1 3 fun h1=>?_<;>refine Zw [(.int .i64 0),(.int .i64 0),(.slice none 0 0),(.slice none 0 0),(.slice none 0 0)] 5 2 Gf fun h2=>?_<;>refine xL 3 Za (xL 4 Za ?_)<;>refine Zi ?_)
 ((refine yL 9 (Zu 1 KX) fun v9 h=>?_;cases h)<;>(refine cP 10 (cA call25 (hA)) fun va10 vb10 hva10 h=>?_;cases h)<;>refine xL 8 Zb (xL 11 Zj (xL 12 Zj (xL 5 Za (xL 6 Za ?_))))<;>refine Zi ?_)
 (refine xL 13 Zb (xL 14 Yv ?_)<;>refine Zc ?_)
 refine cX ?_ ?_<;>intro hb14
 · exact UU rfl hb14
 · refine Ze ?_;((refine yL 18 (Zu 1 KX) fun v18 h=>?_;cases h)<;>refine xL 19 Zb ?_<;>(refine cP 20 (cA (call51) hj) (fun va20 vb20 hva20 hvb20=>?_) (hsh:=r5.t E);cases hvb20)<;>refine xL 17 Zb (xL 21 Zj (xL 22 Zj ?_))<;>refine Zw [(.int .i64 0),(.int .i64 0),(.slice none 0 0),(.slice none 0 0),(.slice none 0 0)] 5 7 Gf fun h7=>?_<;>refine ZE 7 KY ?_<;>refine xL 6 Za ?_<;>refine Zi ?_)
   ((refine yL 23 (Zu (k:=5) (ps:=[p0,p1,p2,p3,p4]) 7 kR (hsh:=r5.s)) fun v23 h=>?_;cases h)<;>refine xL 24 Zb (xL 25 Zb ?_)<;>refine ZE 2 KY ?_<;>refine xL 3 Za (xL 4 Za ?_)<;>refine Zc ?_)
   exact Hw (k:=5) 2 kR (results66) rfl rfl rfl rfl (Xa rfl) dC r5.s rfl
theorem Zfx (t:Nd) (hf:FitT t) {e:Int} (he:¬e=0) (hR:actR t=([],e)):AF prog 21 [pTr t] (· = .tup [KL,Yq [],pInt e]):=by
 have e0:pTr t= .agg [pInt t.op,Yl t.act,Y0 t.l]:=rfl
 have hA:=Zak t hf
 rw [hR] at hA
 dsimp only at hA
 rw [e0] at hA ⊢
 refine AF.of_body 27 func21 rfl ntmps21 (Xa rfl) ?_
 intro w0 M0 vs hl hv
 obtain ⟨v0,rfl⟩:=Wl hl
 clear hl hv
 refine Ze ?_
 (refine ZB 1 3 fun h1=>?_<;>refine Zw [(.int .i64 0),(.int .i64 0),(.slice none 0 0),(.slice none 0 0),(.slice none 0 0)] 5 2 Gf fun h2=>?_<;>refine xL 3 Za (xL 4 Za ?_)<;>refine Zi ?_)
 ((refine yL 10 (Zu 1 KX) fun v10 h=>?_;cases h)<;>(refine cP 11 (cA call54 (hA)) fun va11 vb11 hva11 h=>?_;cases h)<;>refine xL 9 Zb (xL 12 Zj (xL 13 Zj (xL 5 Za (xL 6 Za ?_))))<;>refine Zi ?_)
 (refine xL 14 Zb (xL 15 Yv ?_)<;>refine Zc ?_)
 refine cX ?_ ?_<;>intro hb15
 · refine Ze ?_;(refine xL 16 (ZL Zaw) (xL 17 Zb ?_)<;>refine ZE 2 KY ?_<;>refine xL 3 Za (xL 4 Za ?_)<;>refine Zc ?_)
   refine Y3 (Ks (t:=3) rfl) fun _=>?_;exact Hw (k:=5) 2 kR (results21) rfl rfl rfl rfl (Xa rfl) dC rfl rfl
 · exact UU (by simpa using hb15) he
theorem Zih (t:Nd) (hf:FitT t) {L:List ByteArray} (hR:actR t=(L,0)) {p0 p1 p2 p3 p4:PV} {E:Int} (hS:RS (bldT L t) p0 p1 p2 p3 p4 E):AF prog 21 [pTr t] (· = .tup [.agg [p0,p1,p2,p3,p4],Yq L,pInt E]):=by
 have e0:pTr t= .agg [pInt t.op,Yl t.act,Y0 t.l]:=rfl
 have hA:=Zak t hf
 obtain ⟨hv,hL,hm,hn,hmem⟩:=Zbs (t:=t) (by rw [hR])
 rw [hR] at hA hm hmem
 dsimp only at hA hm hmem
 have hj:=Zfw L hm t (Sj hv) (by have:=RV hv;omega) (fun s hs=>(hmem s).2 hs)
 rw [hS.eq] at hj
 rw [e0] at hA hj ⊢
 have r5:=hS.r5
 obtain ⟨o0,o1,o2,o3,o4⟩:=r5.o
 refine AF.of_body 27 func21 rfl ntmps21 (Xa rfl) ?_
 intro w0 M0 vs hl hv
 obtain ⟨v0,rfl⟩:=Wl hl
 clear hl hv
 refine Ze ?_
 (refine ZB 1 3 fun h1=>?_<;>refine Zw [(.int .i64 0),(.int .i64 0),(.slice none 0 0),(.slice none 0 0),(.slice none 0 0)] 5 2 Gf fun h2=>?_<;>refine xL 3 Za (xL 4 Za ?_)<;>refine Zi ?_)
 ((refine yL 10 (Zu 1 KX) fun v10 h=>?_;cases h)<;>(refine cP 11 (cA call54 (hA)) fun va11 vb11 hva11 h=>?_;cases h)<;>refine xL 9 Zb (xL 12 Zj (xL 13 Zj (xL 5 Za (xL 6 Za ?_))))<;>refine Zi ?_)
 (refine xL 14 Zb (xL 15 Yv ?_)<;>refine Zc ?_)
 refine cX ?_ ?_<;>intro hb15
 · exact UU rfl hb15
 · refine Ze ?_;((refine yL 19 (Zu 1 KX) fun v19 h=>?_;cases h)<;>refine xL 20 Zb ?_<;>(refine cP 21 (cA (call56) hj) (fun va21 vb21 hva21 hvb21=>?_) (hsh:=r5.t E);cases hvb21)<;>refine xL 18 Zb (xL 22 Zj (xL 23 Zj ?_))<;>refine Zw [(.int .i64 0),(.int .i64 0),(.slice none 0 0),(.slice none 0 0),(.slice none 0 0)] 5 7 Gf fun h7=>?_<;>refine ZE 7 KY ?_<;>refine xL 8 Za ?_<;>refine Zi ?_)
   ((refine yL 24 (Zu (k:=5) (ps:=[p0,p1,p2,p3,p4]) 7 kR (hsh:=r5.s)) fun v24 h=>?_;cases h)<;>refine xL 25 Zb (xL 26 Zb ?_)<;>refine ZE 2 KY ?_<;>refine xL 3 Za (xL 4 Za ?_)<;>refine Zc ?_)
   exact Hw (k:=5) 2 kR (results21) rfl rfl rfl rfl (Xa rfl) dC r5.s rfl
theorem Zax (t:Nd):(∃e,¬e=0∧actR t=([],e))∨∃L,actR t=(L,0):=by
 unfold actR
 split
 · split
   · exact .inr ⟨_,rfl⟩
   · exact .inl ⟨5,dC,rfl⟩
 · exact .inl ⟨1,dC,rfl⟩
theorem Zm4 {A:Aut} {w:List Int} (hA:Z4 A=true) (hl:w.length≤200) (hw:∀c∈w,0≤c∧c<A.syms):CG A w=(GN A w,0):=by
 unfold CG
 rw [US (by rw [hA];decide),US oM,US]
 · rfl
 · intro h;obtain ⟨c,hc,h1⟩:=VA.1 h;have:=hw c hc;simp only [X5,UP] at h1;omega
theorem R5.t3 {p0 p1 p2 p3 p4:PV} (h:R5 p0 p1 p2 p3 p4) (L:List ByteArray) (E:Int):shD (.tup [.agg [p0,p1,p2,p3,p4],Yq L,pInt E])=true:=by
 show (shD (.agg [p0,p1,p2,p3,p4])&&(true&&(true&&true)))=true
 rw [h.d];rfl
structure OwnR (t:Nd) (L:List ByteArray) (p0 p1 p2 p3 p4:PV) (E:Int):Prop where
 r5:R5 p0 p1 p2 p3 p4
 hc:(¬E=0∧actR t=(L,E))∨(actR t=(L,0)∧RS (bldT L t) p0 p1 p2 p3 p4 E)
theorem Zm5 (t:Nd) (hf:FitT t):∃L p0 p1 p2 p3 p4 E,OwnR t L p0 p1 p2 p3 p4 E∧AF prog 66 [pTr t] (· = .tup [.agg [p0,p1,p2,p3,p4],Yq L,pInt E]):=by
 rcases Zax t with ⟨e,he,hR⟩|⟨L,hR⟩
 · exact ⟨[],_,_,_,_,_,e,⟨R5.raw, .inl ⟨he,hR⟩⟩,Zig t hf he hR⟩
 · obtain ⟨p0,p1,p2,p3,p4,E,hS⟩:=Cr (bldT L t);exact ⟨L,p0,p1,p2,p3,p4,E,⟨hS.r5, .inr ⟨hR,hS⟩⟩,Zd8 t hf hR hS⟩
theorem Zk8 (t:Nd) (hf:FitT t):∃L p0 p1 p2 p3 p4 E,OwnR t L p0 p1 p2 p3 p4 E∧AF prog 21 [pTr t] (· = .tup [.agg [p0,p1,p2,p3,p4],Yq L,pInt E]):=by
 rcases Zax t with ⟨e,he,hR⟩|⟨L,hR⟩
 · exact ⟨[],_,_,_,_,_,e,⟨R5.raw, .inl ⟨he,hR⟩⟩,Zfx t hf he hR⟩
 · obtain ⟨p0,p1,p2,p3,p4,E,hS⟩:=Cr (bldT L t);exact ⟨L,p0,p1,p2,p3,p4,E,⟨hS.r5, .inr ⟨hR,hS⟩⟩,Zih t hf hR hS⟩
theorem OwnR.no {t:Nd} {L:List ByteArray} {p0 p1 p2 p3 p4:PV} {E:Int} (h:OwnR t L p0 p1 p2 p3 p4 E) (hE:¬E=0):actR t=(L,E)∨(actR t=(L,0)∧bldT L t=none∧E=13):=by
 rcases h.hc with ⟨_,h1⟩|⟨h1,h2⟩
 · exact .inl h1
 · exact .inr ⟨h1,h2.no hE⟩
theorem OwnR.yes {t:Nd} {L:List ByteArray} {p0 p1 p2 p3 p4:PV} {E:Int} (h:OwnR t L p0 p1 p2 p3 p4 E) (hE:E=0):∃A,actR t=(L,0)∧bldT L t=some A∧E=0∧p0=pInt A.n∧p1=pInt A.syms∧p2=pInts A.start∧p3=pInts A.fin∧p4=pMvs A.moves:=by
 rcases h.hc with ⟨h1,_⟩|⟨h1,h2⟩
 · exact UU hE h1
 · obtain ⟨A,h3⟩:=h2.yes hE;exact ⟨A,h1,h3⟩
theorem Zd9 {t:Nd} {w:List ByteArray} {L:List ByteArray} {p0 p1 p2 p3 p4:PV} {E:Int} (hv:Ke t=true) (hl:¬200<w.length) (h:OwnR t L p0 p1 p2 p3 p4 E) (hE:¬E=0):accTX t w=(false,E):=by
 unfold accTX
 rw [UT hv,US hl]
 rcases h.no hE with h1|⟨h1,h2,h3⟩
 · rw [h1,UT hE]
 · rw [h1,US (fun h=>h rfl)];dsimp only;rw [h2,h3]
theorem Zay {t:Nd} {w:List ByteArray} {L:List ByteArray} {A:Aut} (hv:Ke t=true) (hl:¬200<w.length) (h1:actR t=(L,0)) (h2:bldT L t=some A):accTX t w=if (w.any fun s=>decide (YO L s<0))=true then (false,0) else (GN A (Y5 L w),0):=by
 unfold accTX
 rw [UT hv,US hl,h1,US (fun h=>h rfl)]
 dsimp only
 rw [h2]
theorem ZgA {t:Nd} {L:List ByteArray} {A:Aut} (h1:actR t=(L,0)) (h2:bldT L t=some A):IsMin A∧A.syms=L.length∧L.length≤40:=by
 obtain ⟨hv,_,hm,hn,hmem⟩:=Zbs (t:=t) (by rw [h1])
 rw [h1] at hm hn hmem
 dsimp only at hm hn hmem
 obtain ⟨k1,k2,_⟩:=Zfk hn hm hv (fun s hs=>(hmem s).2 hs) h2
 exact ⟨k1,k2,hm⟩
theorem OB (L:List ByteArray) {w:List ByteArray} {i:Nat} {s:ByteArray} (h:w[i]? =some s):Y5 L (w.take (i+1))=Y5 L (w.take i)++[YO L s]:=by
 unfold Y5
 rw [ZR h,Xu];rfl
theorem S5 (L w:List ByteArray):(Y5 L w).length=w.length:=Xe _
set_option maxHeartbeats 1000000 in
theorem Zea (t : Nd) (hf:FitT t) (w:List ByteArray):AF prog 19 [pTr t,Yq w] (· = .tup [ZM (accTX t w).1,pInt (accTX t w).2]):=by
 have e0:pTr t= .agg [pInt t.op,Yl t.act,Y0 t.l]:=rfl
 have hV:=Sl t hf
 obtain ⟨L,p0,p1,p2,p3,p4,E,hO,hj⟩:=Zm5 t hf
 have r5:=hO.r5
 obtain ⟨o0,o1,o2,o3,o4⟩:=r5.o
 rw [e0] at hV hj ⊢
 refine AF.of_body 49 func19 rfl ntmps19 (Xa rfl) ?_
 intro w0 M0 vs hl hv
 obtain ⟨v0,v1,rfl⟩:=YI hl
 clear hl hv
 refine YZ 1 rfl fun hlen=>?_
 refine Ze ?_
 (refine ZB 2 3 fun h2=>?_<;>refine xL 4 Za (xL 5 Za ?_)<;>refine Zi ?_)
 ((refine yL 13 (Zu 2 KX) fun v13 h=>?_;cases h)<;>(refine cS 14 (cA call24 (hV)) fun v14 h=>?_;cases h)<;>refine xL 15 Ya ?_<;>refine Zc ?_)
 refine cX ?_ ?_<;>intro hb15
 · first|exact bN hb15|(
 (have hX:accTX t w=(false,1):=by unfold accTX;rw [US (by simpa using hb15)]);rw [hX];refine Ze ?_;(refine xL 4 Za (xL 5 Za ?_)<;>refine Zc ?_)
 exact Wb (results19) rfl rfl rfl)
 · first | exact bN hb15|(
 (have hv:Ke t=true:=by simpa using hb15);refine Ze ?_;(refine xL 16 Zb (xL 17 (ZT Dl) (xL 18 Yr ?_))<;>refine Zc ?_)
 refine cX ?_ ?_<;>intro hb18
 · first|exact bN hb18|(
 (have hX:accTX t w=(false,5):=by unfold accTX;rw [UT hv,UT oM]);rw [hX];refine Ze ?_;(refine xL 4 Za (xL 5 Za ?_)<;>refine Zc ?_)
 exact Wb (results19) rfl rfl rfl)
 · first | exact bN hb18|(
 have hl:¬200<w.length:=oM;refine Ze ?_;((refine yL 20 (Zu 2 KX) fun v20 h=>?_;cases h)<;>(refine Zg7 21 (cA (call66) hj) (fun va21 vb21 vc21 hva21 hvb21 hvc21=>?_) (hsh:=r5.t3 L E);cases hvc21)<;>refine xL 19 Zb (xL 22 Zj (xL 23 Zj (xL 24 Zj ?_)))<;>refine Zw [(.int .i64 0),(.int .i64 0),(.slice none 0 0),(.slice none 0 0),(.slice none 0 0)] 5 6 Gf fun h6=>?_<;>refine ZE 6 KY ?_<;>refine xL 7 Za (xL 8 Za ?_)<;>refine Zi ?_)
 (refine xL 25 Zb (xL 26 Yv ?_)<;>refine Zc ?_)
 refine cX ?_ ?_<;>intro hb26
 · first|exact bN hb26|(
 rw [Zd9 hv hl hO hb26];refine Ze ?_;(refine xL 27 Zb (xL 4 Za (xL 5 Za ?_))<;>refine Zc ?_)
 exact Wb (results19) rfl rfl rfl)
 · first | exact bN hb26|(
 obtain ⟨A,h1,h2,rfl,rfl,rfl,rfl,rfl,rfl⟩:=hO.yes (by simpa using hb26);rw [Zay hv hl h1 h2];obtain ⟨mA,sA,mL⟩:=ZgA h1 h2;refine Ze ?_;(refine xL 9 Za ?_<;>refine Zi ?_)
 (refine xL 28 Zb (xL 29 (ZT Dl) (xL 30 Zb ?_))<;>refine Zc ?_)
 refine Zq (KB 200 3 1 rfl) fun _=>?_;refine ZD (ι:={q:Nat×Value//q.1≤w.length∧q.2.oneCell'=true∧((w.take q.1).any fun s=>decide (YO L s<0))=false}) (fun k=>⟨[(4,_,_),(5,_,_),(6,_,_),(7,_,_),(8,_,_),(28,_,_),(29,_,_),(9,k.1.2, .val k.1.2),(30, .int .i64 k.1.1,pInt k.1.1)],[(2,_,_),(6,_,_),(200,k.1.2, .own 3 1 (Y5 L (w.take k.1.1)).length ((Y5 L (w.take k.1.1)).map pInt))]⟩) (fun k=>w.length-k.1.1) ⟨(0, .slice none 0 0),Xd _,rfl,rfl⟩ (fun a w H=>H.weaken ⟨rfl,rfl,rfl,rfl,rfl,rfl,rfl,rfl,rfl,trivial⟩ ⟨rfl,rfl,rfl,trivial⟩) ?_;rintro ⟨⟨i,hv9⟩,hi,ho,hany⟩;dsimp only;dsimp only at hi ho hany;(have hpl:(Y5 L (w.take i)).length≤w.length:=by rw [S5,Xo];omega);refine Ze ?_;(refine xL 31 ZP ?_<;>refine Zc ?_)
 refine cX ?_ ?_<;>intro hb31
 · first |exact bN hb31|(
 obtain ⟨s,hs⟩:=Zt (show i<w.length by omega);have e1:=Z7 (f:=Yl) hs;refine Ze ?_;(refine xL 32 (ZI Dl) ?_<;>(refine yL 33 (Z9 Zk7) fun v33 h=>?_;cases h)<;>refine xL 11 Za ?_<;>refine Zi ?_)
 (refine xL 34 Zb (xL 35 Zb ?_)<;>(refine cS 36 (cA call67 (Zag L s)) fun v36 h=>?_;cases h)<;>refine xL 12 Za ?_<;>refine Zi ?_)
 (refine xL 37 Zb (xL 38 ZP ?_)<;>refine Zc ?_)
 refine cX ?_ ?_<;>intro hb38
 · first|exact bN hb38|(
 have hX:(w.any fun s=>decide (YO L s<0))=true:=VA.2 ⟨s,Xc hs,UQ hb38⟩;rw [UT hX];refine Ze ?_;(refine xL 4 Za (xL 5 Za ?_)<;>refine Zc ?_)
 exact Wb (results19) rfl rfl rfl)
 · first|exact bN hb38|(
 refine Ze ?_;(refine xL 39 Zb (xL 40 Zb ?_)<;>refine ZO (kk:=1) 41 Zav fun h41 ho41=>?_<;>(refine ZW 200 41 42 Zav fun h42 ho42=>?_;refine Zs (ZC (l:=42) 200 rfl rfl) fun _=>?_;refine Zs (ZH (l:=200) (p':= .own 3 1 (Y5 L (w.take (i+1))).length ((Y5 L (w.take (i+1))).map pInt)) rfl (by rw [OB L hs];exact Kn _ _ _)) fun _=>?_)<;>refine xL 9 Za ?_<;>refine Zi ?_)
 (refine xL 43 ZG (xL 30 Zb ?_)<;>refine Zc ?_)
 refine Zm (
  ⟨(i+1,h42),Zf hs,ho42,by rw [Ow hs,hany,UR hb38];rfl⟩
  ) (by dsimp only;omega) ⟨rfl,rfl,rfl,rfl,rfl,rfl,rfl,rfl,rfl,trivial⟩ ⟨rfl,rfl,rfl,trivial⟩))
 · first|exact bN hb31|(
 have hall:w.take i=w:=Xj oM;rw [hall] at hany;rw [US (by rw [hany];decide)];refine Zq (En.freeze (l:=200) (t:=9) rfl rfl) fun _=>?_;rw [ZS _ _ _ rfl];obtain ⟨u,k1,k2,k3⟩:=ζ3 hany;have hac:CG A (Y5 L w)=(GN A (Y5 L w),0):=Zm4 mA.valid (by rw [S5];omega) (fun c hc=>by
  rw [k2] at hc;unfold wI at hc;obtain ⟨x,hx,rfl⟩:=Xk.1 hc;have:=k1 x hx;rw [sA];omega)
 have hj2:=ZcW A (Y5 L w);rw [hac] at hj2;dsimp only at hj2;rw [←hall] at hj2;refine Ze ?_;((refine yL 44 (Zu 6 KY) fun v44 h=>?_;cases h)<;>refine xL 45 Zb ?_<;>(refine cP 46 (cA call68 (hj2)) fun va46 vb46 hva46 hvb46=>?_;cases hva46;cases hvb46)<;>refine xL 47 Zj (xL 48 Zj (xL 4 Za (xL 5 Za ?_)))<;>refine Zc ?_)
 refine Wb (results19) rfl rfl ?_;rw [hall]))))
theorem Wz:AggT prog 24 3=true:=by kernel_rfl
theorem T2:AggT prog 39 5=true:=by kernel_rfl
theorem Zeb:FldT prog 24 0 0=true:=by kernel_rfl
theorem Zec:FldT prog 24 1 1=true:=by kernel_rfl
theorem D4:FldT prog 24 2 2=true:=by kernel_rfl
theorem Zii:MpT prog 76 9 4 .string (.bool false):=⟨underlying76,underlying9, .inl rfl,by show ZeroT _ _ _;unfold ZeroT;kernel_rfl⟩
theorem Zaz:NoAgg prog 22=true:=by kernel_rfl
theorem Zk9:NoAgg prog 3=true:=by kernel_rfl
theorem Zla:NoAgg prog 9=true:=by kernel_rfl
theorem RA:SlT prog 22 24 3=true:=by kernel_rfl
theorem Zij:SlT prog 27 9 1=true:=by kernel_rfl
theorem ZaA:ZeroT prog 24 (.agg #[(.int .i64 0),(.string ByteArray.empty),(.slice none 0 0)]):=by unfold ZeroT;kernel_rfl
theorem ZaB:ZeroT prog 39 (.agg #[(.int .i64 0),(.int .i64 0),(.slice none 0 0),(.slice none 0 0),(.slice none 0 0)]):=by unfold ZeroT;kernel_rfl
set_option maxHeartbeats 4000000 in
theorem D5:∀(t:Nd),okT t=true→szT t≤1000000→∀(ks:List ByteArray) (m V:Value),AFh False prog 48 [(0,V,pTr t),(1,m, .val m)] [(1000,m, .omap (skv (KC ks)))] (fun v q h=>h=[(1000,m, .omap (skv (KC (colS ks (YY t)))))]):=Nd.ind fun o a l ih hok hs ks m V=>by
 have e0:pTr (.mk o a l)= .agg [pInt o,Yl a,Y0 l]:=rfl
 rw [e0]
 obtain ⟨hr,hp⟩:=Jh.1 hok
 have hsz:=ZeE (.mk o a l)
 have hlz:=Rb l
 simp only [Nd.l,Nd.op] at hp hsz
 obtain ⟨K,hK⟩:∃K,K=if o=1 then setK ks a else ks:=⟨_,rfl⟩
 have hres:colS ks (YY (.mk o a l))=colS K (JH l):=by
  rw [hK,YY];split<;>rfl
 rw [hres]
 refine AFh.of_body 23 func48 rfl ntmps48 (Xa rfl) rfl ?_
 intro w0 M0 N0
 refine Ze ?_
 (refine ZB 2 3 fun h2=>?_<;>refine Zi ?_)
 (refine xL 6 (Zd 2 Zeb) ?_<;>(refine yL 7 (Zk 2 Zk9) fun v7 h=>?_;cases h)<;>refine xL 8 Ye ?_<;>refine Zc ?_)
 refine cX ?_ ?_<;>intro hb8
 · first |exact bN hb8|(
 refine Ze ?_;(refine xL 9 Zb (xL 10 (Zd 2 Zec) ?_)<;>(refine yL 11 (Zk 2 Zla) fun v11 h=>?_;cases h)<;>(refine LN 1000 Zii ?_;rw [Zcf,show setK ks a=K by rw [hK,UT (by assumption)]])<;>refine Zi ?_)
 (refine xL 12 (Zd 2 D4) ?_<;>(refine yL 13 (Zk 2 Zaz) fun v13 h=>?_;cases h)<;>refine xL 14 (ZT RA) (xL 15 Zb ?_)<;>refine Zc ?_)
 refine ZD (ι:={q:Nat×List ByteArray//q.1≤l.length∧q.2=colS K (JH (l.take q.1))}) (fun k=>⟨[(1,_,_),(13,_,_),(14,_,_),(15, .int .i64 k.1.1,pInt k.1.1)],[(1000,m, .omap (skv (KC k.1.2)))]⟩) (fun k=>l.length-k.1.1) ⟨(0,K),Xd _,by rw [VN];rfl⟩ (fun a w H=>H.weaken ⟨rfl,rfl,rfl,rfl,trivial⟩ ⟨rfl,trivial⟩) ?_;rintro ⟨⟨i,S⟩,hi,hS⟩;dsimp only;dsimp only at hi hS;refine Ze ?_;(refine xL 16 ZP ?_<;>refine Zc ?_)
 refine cX ?_ ?_<;>intro hb16
 · first|exact bN hb16|(
 obtain ⟨x,hx⟩:=Zt (show i<l.length by omega);have e1:((Lo l).drop (i*3)).take 3=[pInt x.op,Yl x.act,Y0 x.l]:=KF hx;have e2:=JO hx;have hxm:=Xc hx;have hxs:=Lw hxm;have hsn:=L4 hx;refine Ze ?_;(refine xL 17 (ZI RA) ?_<;>(refine yL 18 (Wn Wz) fun v18 h=>?_;cases h)<;>refine Zw [(.int .i64 0),(.string ByteArray.empty),(.slice none 0 0)] 3 5 ZaA fun h5=>?_<;>refine ZE 5 Wz ?_<;>refine Zi ?_)
 ((refine yL 19 (Zu 5 Wz) fun v19 h=>?_;cases h)<;>refine xL 20 Zb ?_<;>(refine WQ [(1000,m, .omap (skv (KC S)))] ⟨rfl,trivial⟩ ?_;refine JP [] 21 (call48) (ih x hxm (hp x hxm) oM S m v19) (fun v21 p21 h21 hR21=>?_);subst hR21)<;>refine Zi ?_)
 (refine xL 22 ZG (xL 15 Zb ?_)<;>refine Zc ?_)
 refine Zm (
  ⟨(i+1,colS S (YY x)),Zf hx,by dsimp only;rw [hsn,Sq,←hS]⟩
  ) (by dsimp only;omega) ⟨rfl,rfl,rfl,rfl,trivial⟩ ⟨rfl,trivial⟩)
 · first|exact bN hb16|(
 refine nav ?_;(have hS2:S=colS K (JH l):=by rw [hS,Xj oM]);refine Sm [(1000,m, .omap (skv (KC S)))] (results48) ⟨rfl,trivial⟩ ?_;rw [hS2]))
 · first |exact bN hb8|(
 rw [show ks=K by rw [hK,US (by assumption)]];refine Ze ?_;(refine xL 12 (Zd 2 D4) ?_<;>(refine yL 13 (Zk 2 Zaz) fun v13 h=>?_;cases h)<;>refine xL 14 (ZT RA) (xL 15 Zb ?_)<;>refine Zc ?_)
 refine ZD (ι:={q:Nat×List ByteArray//q.1≤l.length∧q.2=colS K (JH (l.take q.1))}) (fun k=>⟨[(1,_,_),(13,_,_),(14,_,_),(15, .int .i64 k.1.1,pInt k.1.1)],[(1000,m, .omap (skv (KC k.1.2)))]⟩) (fun k=>l.length-k.1.1) ⟨(0,K),Xd _,by rw [VN];rfl⟩ (fun a w H=>H.weaken ⟨rfl,rfl,rfl,rfl,trivial⟩ ⟨rfl,trivial⟩) ?_;rintro ⟨⟨i,S⟩,hi,hS⟩;dsimp only;dsimp only at hi hS;refine Ze ?_;(refine xL 16 ZP ?_<;>refine Zc ?_)
 refine cX ?_ ?_<;>intro hb16
 · first|exact bN hb16|(
 obtain ⟨x,hx⟩:=Zt (show i<l.length by omega);have e1:((Lo l).drop (i*3)).take 3=[pInt x.op,Yl x.act,Y0 x.l]:=KF hx;have e2:=JO hx;have hxm:=Xc hx;have hxs:=Lw hxm;have hsn:=L4 hx;refine Ze ?_;(refine xL 17 (ZI RA) ?_<;>(refine yL 18 (Wn Wz) fun v18 h=>?_;cases h)<;>refine Zw [(.int .i64 0),(.string ByteArray.empty),(.slice none 0 0)] 3 5 ZaA fun h5=>?_<;>refine ZE 5 Wz ?_<;>refine Zi ?_)
 ((refine yL 19 (Zu 5 Wz) fun v19 h=>?_;cases h)<;>refine xL 20 Zb ?_<;>(refine WQ [(1000,m, .omap (skv (KC S)))] ⟨rfl,trivial⟩ ?_;refine JP [] 21 (call48) (ih x hxm (hp x hxm) oM S m v19) (fun v21 p21 h21 hR21=>?_);subst hR21)<;>refine Zi ?_)
 (refine xL 22 ZG (xL 15 Zb ?_)<;>refine Zc ?_)
 refine Zm (
  ⟨(i+1,colS S (YY x)),Zf hx,by dsimp only;rw [hsn,Sq,←hS]⟩
  ) (by dsimp only;omega) ⟨rfl,rfl,rfl,rfl,trivial⟩ ⟨rfl,trivial⟩)
 · first|exact bN hb16|(
 refine nav ?_;(have hS2:S=colS K (JH l):=by rw [hS,Xj oM]);refine Sm [(1000,m, .omap (skv (KC S)))] (results48) ⟨rfl,trivial⟩ ?_;rw [hS2]))
theorem ZaC (par:List (Int×Int)):∀f i,(SJ par f i).length≤f
 |0,_=>Xg _
 | f + 1,i=>by
   rw [SJ];split
   · split
     · exact Xd _
     · rename_i x _ _;rw [Xb,Xx];have:=ZaC par f x.1.toNat;omega
   · exact Xd _
theorem Zlb {a b:Aut} (ha:IsMin a) (hb:IsMin b) (hs:a.syms=b.syms) (op:Int):(cmpX a b op).2.1.length≤2000:=by
 have hf:WK a b=0:=Zbm ha.valid hb.valid hs
 cases hq:prodQ a b with
 |none=>rw [ζ0 hf ha.red hb.red hq];exact Xd _
 | some q=>
   obtain ⟨o,rows⟩:=q;have hP:PQ a b o rows:=⟨ha,hb,hs,hq⟩;have hcap:=hP.ok.2.2;rw [ζZ (op:=op) hf ha.red hb.red hq];dsimp only;unfold TQ;dsimp only
   cases hx:(o.map (WT a b op)).idxOf? true with
   |none=>exact Xd _
   | some i=>
     obtain ⟨hi,_⟩:=Zdt.1 hx;(have hil:i<o.length:=by have:=Zf hi;rwa [Xe] at this);have:=ZaC (o.map (·.2)) (i+1) i;dsimp only;omega
structure CmpR (a b:Aut) (m:Nat) (s:Bool) (v:List Int) (e:Int):Prop where
 eq:cmpX a b 4=(s,v,e)
 inn:∀i∈v,0≤i∧i<m
 len:v.length≤2000
 nil:(¬e=0∨s=true)→v=[]
 fal:¬e=0→s=false
theorem Zos {a b:Aut} {m:Nat} (ha:IsMin a) (hb:IsMin b) (sa:a.syms=m) (sb:b.syms=m):∃s v e,CmpR a b m s v e:=by
 have hs:a.syms=b.syms:=by rw [sa,sb]
 have hl:=Zlb ha hb hs 4
 rcases Zmw ha hb hs 4 with h|⟨h,_⟩|⟨u,hu,h,_⟩
 · exact ⟨_,_,_,h,fun i hi=>(by cases hi),Xd _,fun _=>rfl,fun _=>rfl⟩
 · exact ⟨_,_,_,h,fun i hi=>(by cases hi),Xd _,fun _=>rfl,fun h=>UU rfl h⟩
 · rw [h] at hl;refine ⟨_,_,_,h,fun i hi=>?_,hl,fun h=>?_,fun _=>rfl⟩
   · unfold wI at hi;obtain ⟨x,hx,rfl⟩:=Xk.1 hi;have:=(ZhQ sa).1 hu x hx;omega
   · rcases h with h|h
     · exact UU rfl h
     · cases h
theorem Zlc {a b:Nd} (h:¬(Ke a=true∧Ke b=true)):eqTX a b=(false,[],1):=by unfold eqTX;rw [US h]
theorem Zld {a b:Nd} (h:Ke a=true∧Ke b=true) (hl:40<(unT a b).length):eqTX a b=(false,[],5):=by
 unfold eqTX
 rw [HJ] at hl
 rw [UT h,US oM]
theorem ZgB {a b:Nd} (h:Ke a=true∧Ke b=true) (hl:(unT a b).length≤40) (hn:bldT (unT a b) a=none∨bldT (unT a b) b=none):eqTX a b=(false,[],13):=by
 unfold eqTX
 rw [HJ] at hl
 rw [UT h,UT hl]
 rcases hn with hn|hn
 · rw [hn]
 · rw [hn];cases bldT (unT a b) a<;>rfl
theorem Zm6 {a b:Nd} (h:Ke a=true∧Ke b=true) (hl:(unT a b).length≤40) {x y:Aut} (hx:bldT (unT a b) a=some x) (hy:bldT (unT a b) b=some y) {m:Nat} {s:Bool} {v:List Int} {e:Int} (hc:CmpR x y m s v e):eqTX a b=(s,nmI (unT a b) v,e):=by
 unfold eqTX
 rw [HJ] at hl
 rw [UT h,UT hl,hx,hy]
 dsimp only
 rw [hc.eq]
theorem Zot {a b:Nd} (h:Ke a=true∧Ke b=true) (hl:(unT a b).length≤40):(∀A,bldT (unT a b) a=some A→IsMin A∧A.syms=(unT a b).length)∧∀A,bldT (unT a b) b=some A→IsMin A∧A.syms=(unT a b).length:=
 ⟨fun A hA=>by obtain ⟨k1,k2,_⟩:=Zfk (Zko a b) hl h.1 (fun s hs=>HI.2 (.inl hs)) hA;exact ⟨k1,k2⟩,fun A hA=>by obtain ⟨k1,k2,_⟩:=Zfk (Zko a b) hl h.2 (fun s hs=>HI.2 (.inr hs)) hA;exact ⟨k1,k2⟩⟩
theorem Zle:∀t:Nd,okT t=true→∀s∈YY t,s.size≤40:=Nd.ind fun o a l ih h s hs=>by
 obtain ⟨hr,hp⟩:=Jh.1 h
 rw [YY] at hs
 have hL:s∈JH l→s.size≤40:=fun hs=>by
  obtain ⟨x,hx,h1⟩:=Sp.1 hs;exact ih x hx (hp x hx) s h1
 split at hs
 · rcases Xs.1 hs with rfl|hs
   · exact Zhe hr
   · exact hL hs
 · exact hL hs
set_option maxHeartbeats 4000000 in
theorem Cu (a b : Nd) (hfa:FitT a) (hfb:FitT b):AF prog 12 [pTr a,pTr b] (· = .tup [ZM (eqTX a b).1,Yq (eqTX a b).2.1,pInt (eqTX a b).2.2]):=by
 have ea:pTr a= .agg [pInt a.op,Yl a.act,Y0 a.l]:=rfl
 have eb:pTr b= .agg [pInt b.op,Yl b.act,Y0 b.l]:=rfl
 have hVa:=Sl a hfa
 have hVb:=Sl b hfb
 rw [ea] at hVa ⊢
 rw [eb] at hVb ⊢
 refine AF.of_body 70 func12 rfl ntmps12 (Xa rfl) ?_
 intro w0 M0 vs hl hv
 obtain ⟨v0,v1,rfl⟩:=YI hl
 clear hl hv
 refine Ze ?_
 (refine ZB 2 3 fun h2=>?_<;>refine ZB 3 3 fun h3=>?_<;>refine xL 4 Za (xL 5 Za (xL 6 Za ?_))<;>refine Zi ?_)
 ((refine yL 14 (Zu 2 Wz) fun v14 h=>?_;cases h)<;>(refine cS 15 (cA call24 (hVa)) fun v15 h=>?_;cases h)<;>refine xL 16 Ya (xL 17 Zb ?_)<;>(refine bL 17 (fun hb17=>?_) (fun hb17=>?_)<;>(first|refine kL 18 ?_|(refine yL 18 (Zu 3 Wz) fun v18 h=>?_;cases h)))<;>(first|refine kL 19 ?_|(refine cS 19 (cA call24 (hVb)) fun v19 h=>?_;cases h))<;>(first|refine kL 20 ?_|refine xL 20 Ya ?_)<;>refine xL 21 ZF ?_<;>refine Zc ?_)<;>(
 refine cX ?_ ?_<;>intro hb21
 · first|exact bN hb21|(
 have hno:¬(Ke a=true∧Ke b=true):=by
  rintro ⟨h1,h2⟩
  first|(rw [h1] at hb17;simp at hb17;done)|(rw [h2] at hb21;simp at hb21;done)
 rw [Zlc hno];refine Ze ?_;(refine xL 4 Za (xL 5 Za (xL 6 Za ?_))<;>refine Zc ?_)
 refine Y3 (Ks (t:=5) rfl) fun _=>?_;exact ζd (results12) (.tmp rfl) (.tmp rfl) (.tmp rfl) rfl)
 · first | exact bN hb21|(
 have hva:Ke a=true:=by first|(simpa using hb17)|(exfalso;simp_all;done)
 have hvb:Ke b=true:=by first|(simpa using hb21)|(exfalso;simp_all;done)
 have hv:Ke a=true∧Ke b=true:=⟨hva,hvb⟩;have hoa:=Sj hva;have hob:=Sj hvb;have hsa:=RV hva;have hsb:=RV hvb;have hcol:∀V m,AFh False prog 48 [(0,V, .agg [pInt a.op,Yl a.act,Y0 a.l]),(1,m, .val m)] [(1000,m, .omap (skv (KC [])))] (fun v q h=>h=[(1000,m, .omap (skv (KC (colS [] (YY a)))))]):=fun V m=>D5 a hoa oM [] m V;have hcol2:∀V m,AFh False prog 48 [(0,V, .agg [pInt b.op,Yl b.act,Y0 b.l]),(1,m, .val m)] [(1000,m, .omap (skv (KC (colS [] (YY a)))))] (fun v q h=>h=[(1000,m, .omap (skv (KC (unK a b))))]):=fun V m=>D5 b hob oM _ m V;have hkl:(unK a b).length≤1000000:=by
  have h1:=PZ (YY b) (colS [] (YY a));have h2:=PZ (YY a) [];have h3:=Zbt a hoa;have h4:=Zbt b hob;rw [XC] at h2;unfold unK;omega
 have hks:∀s∈unK a b,s.size≤140737488355328:=fun s hs=>by
  rcases Zgk.1 hs with h|h
  · have:=Zle a hoa s h;omega
  · have:=Zle b hob s h;omega
 refine Ze ?_;(refine GI 22 fun h22 ho22=>?_<;>refine xL 7 Za ?_<;>refine Zc ?_)
 refine Zq (ZC (l:=22) 1000 rfl rfl) fun _=>?_;(refine Zv ?_<;>(refine yL 23 (Zu 2 Wz) fun v23 h=>?_;cases h)<;>refine xL 24 Zb ?_<;>(refine WQ [(1000,h22, .omap (skv (KC []))),(2,_,_),(3,_,_)] ⟨rfl,rfl,rfl,trivial⟩ ?_;refine JP [2,3] 25 (call48) (hcol v23 h22) (fun v25 p25 h25 hR25=>?_);subst hR25)<;>refine Zi ?_)
 ((refine yL 26 (Zu 3 Wz) fun v26 h=>?_;cases h)<;>refine xL 27 Zb ?_<;>(refine WQ [(1000,h22, .omap (skv (KC (colS [] (YY a))))),(2,_,_),(3,_,_)] ⟨rfl,rfl,rfl,trivial⟩ ?_;refine JP [2,3] 28 (call48) (hcol2 v26 h22) (fun v28 p28 h28 hR28=>?_);subst hR28)<;>refine Zc ?_)
 refine Zq (En.freeze (l:=1000) (t:=7) rfl rfl) fun _=>?_;(refine Zv ?_<;>refine xL 29 Zb ?_<;>refine Zn7 (k1:=95) (t:=76) 30 Zpb (call50) (fun g30 b30 c30 es30 hkv30 hWf30=>?_)<;>refine Zhh (ks:=unK a b) 30 31 Zjl (call49) (fun h=>h) hWf30 hkv30.symm (Zkn a b) hkl hks (fun v31 ho31=>?_)<;>refine xL 8 Za ?_<;>refine Zc ?_)
 refine Zq (En.freeze (l:=31) (t:=8) rfl rfl) fun _=>?_;rw [Ea _ _ _ (show (unK a b).length=(J2 (unK a b)).length from (G4 _).symm)];rw [show J2 (unK a b)=unT a b from rfl];(refine Zv ?_<;>refine xL 32 Zb (xL 33 (ZT Zij) (xL 34 Yr ?_))<;>refine Zc ?_)
 refine cX ?_ ?_<;>intro hb34
 · first|exact bN hb34|(
 rw [Zld hv oM];refine Ze ?_;(refine xL 4 Za (xL 5 Za (xL 6 Za ?_))<;>refine Zc ?_)
 refine Y3 (Ks (t:=5) rfl) fun _=>?_;exact ζd (results12) (.tmp rfl) (.tmp rfl) (.tmp rfl) rfl)
 · first | exact bN hb34|(
 have hl:(unT a b).length≤40:=oM;obtain ⟨mina,minb⟩:=Zot hv hl;obtain ⟨p0,p1,p2,p3,p4,E,hR⟩:=Cr (bldT (unT a b) a);have hj:=De (unT a b) hl a hoa oM (fun s hs=>HI.2 (.inl hs));rw [hR.eq,ea] at hj;have r5:=hR.r5;obtain ⟨o0,o1,o2,o3,o4⟩:=r5.o;obtain ⟨q0,q1,q2,q3,q4,F,hQ⟩:=Cr (bldT (unT a b) b);have hk:=De (unT a b) hl b hob oM (fun s hs=>HI.2 (.inr hs));rw [hQ.eq,eb] at hk;have s5:=hQ.r5;obtain ⟨u0,u1,u2,u3,u4⟩:=s5.o;refine Ze ?_;((refine yL 36 (Zu 2 Wz) fun v36 h=>?_;cases h)<;>refine xL 37 Zb ?_<;>(refine cP 38 (cA (call51) hj) (fun va38 vb38 hva38 hvb38=>?_) (hsh:=r5.t E);cases hvb38)<;>refine xL 35 Zb (xL 39 Zj (xL 40 Zj ?_))<;>refine Zw [(.int .i64 0),(.int .i64 0),(.slice none 0 0),(.slice none 0 0),(.slice none 0 0)] 5 9 ZaB fun h9=>?_<;>refine ZE 9 T2 ?_<;>refine xL 10 Za ?_<;>refine Zi ?_)
 (refine xL 41 Zb (xL 42 Yv ?_)<;>refine Zc ?_)
 refine cX ?_ ?_<;>intro hb42
 · first|exact bN hb42|(
 obtain ⟨hn,rfl⟩:=hR.no hb42;rw [ZgB hv hl (.inl hn)];refine Ze ?_;(refine xL 43 Zb (xL 4 Za (xL 5 Za (xL 6 Za ?_)))<;>refine Zc ?_)
 refine Y3 (Ks (t:=5) rfl) fun _=>?_;exact ζd (results12) (.tmp rfl) (.tmp rfl) (.tmp rfl) rfl)
 · first | exact bN hb42|(
 obtain ⟨A,hA,rfl,rfl,rfl,rfl,rfl,rfl⟩:=hR.yes (by simpa using hb42);refine Ze ?_;((refine yL 45 (Zu 3 Wz) fun v45 h=>?_;cases h)<;>refine xL 46 Zb ?_<;>(refine cP 47 (cA (call51) hk) (fun va47 vb47 hva47 hvb47=>?_) (hsh:=s5.t F);cases hvb47)<;>refine xL 44 Zb (xL 48 Zj (xL 49 Zj ?_))<;>refine Zw [(.int .i64 0),(.int .i64 0),(.slice none 0 0),(.slice none 0 0),(.slice none 0 0)] 5 11 ZaB fun h11=>?_<;>refine ZE 11 T2 ?_<;>refine xL 10 Za ?_<;>refine Zi ?_)
 (refine xL 50 Zb (xL 51 Yv ?_)<;>refine Zc ?_)
 refine cX ?_ ?_<;>intro hb51
 · first|exact bN hb51|(
 obtain ⟨hn,rfl⟩:=hQ.no hb51;rw [ZgB hv hl (.inr hn)];refine Ze ?_;(refine xL 52 Zb (xL 4 Za (xL 5 Za (xL 6 Za ?_)))<;>refine Zc ?_)
 refine Y3 (Ks (t:=5) rfl) fun _=>?_;exact ζd (results12) (.tmp rfl) (.tmp rfl) (.tmp rfl) rfl)
 · first |exact bN hb51|(
 obtain ⟨B,hB,rfl,rfl,rfl,rfl,rfl,rfl⟩:=hQ.yes (by simpa using hb51);obtain ⟨mA,sA⟩:=mina A hA;obtain ⟨mB,sB⟩:=minb B hB;obtain ⟨s,v,e,hc⟩:=Zos mA mB sA sB;have hj3:AF prog 52 [ZN A,ZN B] (· = .tup [ZM s,pInts v,pInt e]):=by
  have:=CP A B;rw [hc.eq] at this;exact this
 rw [Zm6 hv hl hA hB hc];have hvl:=hc.len;refine Ze ?_;((refine yL 54 (Zu 9 T2) fun v54 h=>?_;cases h)<;>(refine yL 55 (Zu 11 T2) fun v55 h=>?_;cases h)<;>(refine Zg7 56 (cA (call52) hj3) (fun va56 vb56 vc56 hva56 hvb56 hvc56=>?_);cases hva56;cases hvc56)<;>refine xL 53 Zb (xL 57 Zj (xL 58 Zj (xL 59 Zj (xL 12 Za (xL 13 Za (xL 10 Za ?_))))))<;>refine Zi ?_)
 (refine xL 60 Zb (xL 61 Yv (xL 62 Zb ?_))<;>(refine bLd 62 (fun hb62=>?_) (fun hb62=>?_)<;>(first|refine kL 63 ?_|refine xL 63 Zb ?_))<;>refine xL 64 ZF ?_<;>refine Zc ?_)<;>(
 refine cX ?_ ?_<;>intro hb64
 · first|exact bN hb64|(
 have hvn:v=[]:=hc.nil (by first|exact .inl (by simpa using hb62)|exact .inr (by simpa using hb64));subst hvn;refine Ze ?_;(refine xL 65 Zb (xL 66 Zb (xL 4 Za (xL 5 Za (xL 6 Za ?_))))<;>refine Zc ?_)
 refine Y3 (Ks (t:=5) rfl) fun _=>?_;exact ζd (results12) (.tmp rfl) (.tmp rfl) (.tmp rfl) rfl)
 · first|exact bN hb64|(
 have hs0:s=false:=by first|(simpa using hb64)|(exfalso;simp_all;done)
 have he0:e=0:=by first|(simpa using hb62)|(exfalso;simp_all;done)
 subst hs0 he0;refine Ze ?_;(refine xL 67 Zb (xL 68 Zb ?_)<;>(refine cS 69 (cA call53 (Zah v (unT a b) oM hc.inn)) fun v69 h=>?_;cases h)<;>refine xL 4 Za (xL 5 Za (xL 6 Za ?_))<;>refine Zc ?_)
 exact ζd (results12) (.tmp rfl) (.tmp rfl) (.tmp rfl) rfl)))))))
theorem Zm7 (a b:Nd):unT a b=canB (YY a++YY b):=by unfold unT unK canB;rw [Sq]
def Zik (i:Nat) (a:Aut):Option Aut:=match (Zky a).upto (Oo a a.start) i with
 |some q=>if q.1.length≤i then Wh ⟨a.syms.toNat,q.2,q.1.map (Wy a)⟩ else none
 |none=>none
theorem HK {i:Nat} (hi:i≤2000) {a A:Aut} (h:Zik i a=some A):W5 a= .ok A:=by
 unfold Zik at h
 split at h
 · rename_i q hq;split at h
   · rename_i hl;exact ZmE i hq hl hi h
   · cases h
 · cases h
def Zm8 (i:Nat) (a:Aut):Option Aut:=if Z4 a=true then Zik i a else none
def Zil (i:Nat) (X:Aut):Option Aut:=if 2000<X.n∨20000<(mkM X.moves).length then none else Zik i (mkA X)
theorem ZgC {i:Nat} (hi:i≤2000) {a A:Aut} (h:Zm8 i a=some A):Jd a= .ok A:=by
 unfold Zm8 at h
 unfold Jd
 split at h
 · rename_i h1;rw [UT h1];exact HK hi h
 · cases h
theorem HL {i:Nat} (hi:i≤2000) {a A:Aut} (h:Zil i a=some A):Je a= .ok A:=by
 unfold Zil at h
 unfold Je D'
 split at h
 · cases h
 · rename_i h1;rw [US h1];exact HK hi h
def Zlf (i:Nat) (a b:Aut):Option Aut:=if WK a b=0 then Zil i (Kp a b) else none
def Zou (i:Nat) (a b:Aut):Option Aut:=if WK a b=0 then Zil i (W6 a b) else none
def Zov (i:Nat) (a:Aut):Option Aut:=if Z4 a=true then Zil i (KU a) else none
def Zow (i:Nat) (a b:Aut):Option Aut:=if WK a b=0 then (if 2000<a.n*b.n∨40000<(a.moves.length:Int)*b.n+(b.moves.length:Int)*a.n then none else Zil i (Wj a b)) else none
def Zlg (i:Nat) (a b:Aut):Option Aut:=(Zlf i b a).bind fun x=>(Zov i x).bind fun s=>Zlf i a s
def Zlh (i:Nat) (o:Int) (a b:Aut):Option Aut:=if o=3 then Zlf i a b else if o=4 then Zou i a b else if o=6 then Zlg i a b else Zow i a b
theorem ZbH {i:Nat} (hi:i≤2000) {a b A:Aut} (h:Zlf i a b=some A):Gs a b= .ok A:=by
 unfold Zlf at h
 unfold Gs
 split at h
 · rename_i h1;rw [US (fun h=>h h1)];exact HL hi h
 · cases h
theorem Zm9 {i:Nat} (hi:i≤2000) {a b A:Aut} (h:Zou i a b=some A):J9 a b= .ok A:=by
 unfold Zou at h
 unfold J9
 split at h
 · rename_i h1;rw [US (fun h=>h h1)];exact HL hi h
 · cases h
theorem Zna {i:Nat} (hi:i≤2000) {a A:Aut} (h:Zov i a=some A):JC a= .ok A:=by
 unfold Zov at h
 unfold JC
 split at h
 · rename_i h1;rw [UT h1];exact HL hi h
 · cases h
theorem Znb {i:Nat} (hi:i≤2000) {a b A:Aut} (h:Zow i a b=some A):Li a b= .ok A:=by
 unfold Zow at h
 unfold Li
 split at h
 · rename_i h1;rw [US (fun h=>h h1)];split at h
   · cases h
   · rename_i h2;rw [US h2];exact HL hi h
 · cases h
theorem Zli {i:Nat} (hi:i≤2000) {a b A:Aut} (h:Zlg i a b=some A):Jg a b= .ok A:=by
 unfold Zlg at h
 obtain ⟨x,h1,h⟩:=XW.1 h
 obtain ⟨s,h2,h3⟩:=XW.1 h
 unfold Jg
 rw [ZbH hi h1]
 dsimp only
 rw [Zna hi h2]
 exact ZbH hi h3
theorem Znc {i:Nat} (hi:i≤2000) {o:Int} {a b A:Aut} (h:Zlh i o a b=some A):Wk o a b= .ok A:=by
 unfold Zlh at h
 unfold Wk
 split at h
 · rename_i h1;rw [UT h1];exact ZbH hi h
 rename_i h1
 rw [US h1]
 split at h
 · rename_i h2;rw [UT h2];exact Zm9 hi h
 rename_i h2
 rw [US h2]
 split at h
 · rename_i h3;rw [UT h3];exact Zli hi h
 · rename_i h3;rw [US h3];exact Znb hi h
def ZpB (i:Nat) (o:Int):List (Option Aut)→Option Aut
 |[]=>none
 |x::l=>l.foldl (fun r p=>r.bind fun a=>p.bind fun b=>Zlh i o a b) x
mutual
def Zim (i:Nat) (acts:List ByteArray):Nd→Option Aut
 | .mk o a l=>if o=1 then Zm8 i (GF acts.length (YO acts a)) else if o=2 then Zm8 i (RI acts.length) else ZpB i o (ZgD i acts l)
def ZgD (i:Nat) (acts:List ByteArray):List Nd→List (Option Aut)
 |[]=>[]
 |x::l=>Zim i acts x::ZgD i acts l
end
theorem Zlj (i:Nat) (acts:List ByteArray) (l:List Nd):ZgD i acts l=l.map (Zim i acts):=by
 induction l with
 |nil=>rfl
 |cons x l ih=>rw [ZgD,ih];rfl
theorem ZgE {i:Nat} (hi:i≤2000) {o:Int}:∀(l m:List (Option Aut)) (r s:Option Aut) {A:Aut},l.length=m.length→(∀(k:Nat) (x y:Option Aut) (B:Aut),l[k]? =some x→m[k]? =some y→x=some B→y=some B)→(∀B,r=some B→s=some B)→l.foldl (fun r p=>r.bind fun a=>p.bind fun b=>Zlh i o a b) r=some A→m.foldl (Gu o) s=some A
 |[],[],r,s,A,_,_,hr,h=>hr A h
 |[],_::_,_,_,_,h,_,_,_=>by simp at h
 |_::_,[],_,_,_,h,_,_,_=>by simp at h
 | x::l,y::m,r,s,A,hl,hm,hr,h=>by
   rw [VM] at h ⊢;refine ZgE hi l m _ _ (by simpa using hl) (fun k x' y' B h1 h2=>hm (k+1) x' y' B (by simpa using h1) (by simpa using h2)) (fun B hB=>?_) h;obtain ⟨a,h1,hB⟩:=XW.1 hB;obtain ⟨b,h2,hB⟩:=XW.1 hB;have h3:=hm 0 x y b rfl rfl h2;rw [hr a h1,h3];show okO (Wk o a b)=some B;rw [Znc hi hB];rfl
theorem ZbI {i:Nat} (hi:i≤2000) (acts:List ByteArray):∀(t:Nd) {A:Aut},Zim i acts t=some A→bldT acts t=some A:=Nd.ind fun o a l ih A h=>by
 rw [Zim] at h
 rw [bldT]
 split at h
 · rename_i h1;rw [UT h1];show okO (Jd (GF acts.length (YO acts a)))=some A;rw [ZgC hi h];rfl
 rename_i h1
 rw [US h1]
 split at h
 · rename_i h2;rw [UT h2,ZgC hi h];rfl
 rename_i h2
 rw [US h2,Zbo]
 rw [Zlj] at h
 cases l with
 |nil=>cases h
 | cons x l=>
   have h3:(l.map (Zim i acts)).foldl (fun r p=>r.bind fun a=>p.bind fun b=>Zlh i o a b) (Zim i acts x)=some A:=h;show (l.map (bldT acts)).foldl (Gu o) (bldT acts x)=some A;refine ZgE hi _ _ _ _ sM (fun k x' y' B h4 h5 h6=>?_) (fun B hB=>ih x (Xm ..) hB) h3;rw [Xh,XA] at h4 h5;obtain ⟨z,hz,rfl⟩:=h4;obtain ⟨z',hz',rfl⟩:=h5;rw [hz] at hz'
   cases hz';exact ih z (Xn _ (Xc hz)) h6
def sA:ByteArray:=⟨#[97]⟩
def sB:ByteArray:=⟨#[98]⟩
def sC:ByteArray:=⟨#[99]⟩
def lfT (s:ByteArray):Nd:= .mk 1 s []
def opT (o:Int) (l:List Nd):Nd:= .mk o ByteArray.empty l
def Cv:Nd:=opT 3 [lfT sA,opT 4 [lfT sB,opT 2 []],lfT sC]
def D6:Nd:=opT 5 [lfT sA,opT 6 [lfT sB,opT 2 []]]
def D7:Nd:=opT 6 [lfT sB,lfT sA]
def Zpk (i:Nat) (a b:Aut) (op:Int):Option (Bool×List Int×Int):=if WK a b=0 then (Zik i a).bind fun A=>(Zik i b).bind fun B=>((Wq A B).upto ((0,0),(-1,-1)) i).bind fun q=>if q.1.length≤i then some ((TQ A B op q).1,(TQ A B op q).2,0) else none else none
theorem Znd {i:Nat} (hi:i≤2000) {a b:Aut} {op:Int} {r:Bool×List Int×Int} (h:Zpk i a b op=some r):cmpX a b op=r:=by
 unfold Zpk at h
 split at h
 · rename_i hf;obtain ⟨A,hA,h⟩:=XW.1 h;obtain ⟨B,hB,h⟩:=XW.1 h;obtain ⟨q,hq,h⟩:=XW.1 h;split at h
   · rename_i hl
     cases h;exact ZmF hf (Zkz i (HK hi hA) (HK hi hB) hq hl hi)
   · cases h
 · cases h
def Cw:Aut:=⟨5,3,[0],[4],[⟨0,1,0⟩,⟨0,2,1⟩,⟨0,2,2⟩,⟨1,2,0⟩,⟨1,3,1⟩,⟨1,4,2⟩,⟨2,2,0⟩,⟨2,2,1⟩,⟨2,2,2⟩,⟨3,2,0⟩,⟨3,2,1⟩,⟨3,4,2⟩,⟨4,2,0⟩,⟨4,2,1⟩,⟨4,2,2⟩]⟩
def ZnC:Aut:=⟨5,2,[0],[4],[⟨0,1,0⟩,⟨0,2,1⟩,⟨1,3,0⟩,⟨1,4,1⟩,⟨2,4,0⟩,⟨2,2,1⟩,⟨3,3,0⟩,⟨3,3,1⟩,⟨4,3,0⟩,⟨4,4,1⟩]⟩
def ZnD:Aut:=⟨3,2,[0],[2],[⟨0,1,0⟩,⟨0,2,1⟩,⟨1,1,0⟩,⟨1,1,1⟩,⟨2,0,0⟩,⟨2,1,1⟩]⟩
theorem Zne:bldT [sA,sB,sC] Cv=some Cw:=ZbI (i:=30) dC _ _ kR
theorem Znf:bldT [sA,sB] D6=some ZnC:=ZbI (i:=30) dC _ _ kR
theorem Zng:bldT [sA,sB] D7=some ZnD:=ZbI (i:=30) dC _ _ kR
theorem Zlk:cmpX ZnC ZnD 4=(false,[1],0):=Znd (i:=30) dC kR
theorem ZbJ:Ke Cv=true:=by decide+kernel
theorem ZgF:Ke D6=true:=by decide+kernel
theorem ZgG:Ke D7=true:=by decide+kernel
theorem Zll:Po [sA,sB,sC]:=by unfold Po;decide+kernel
theorem Znh:actR Cv=([sA,sB,sC],0):=by
 have h:[sA,sB,sC]=canB (YY Cv):=Zbu Zll fun s=>Iff.rfl
 have h2:(colS [] (YY Cv)).length=3:=by
  have:=congrArg List.length h;unfold canB at this;rw [G4] at this;exact this.symm
 unfold actR
 rw [UT ZbJ,UT oM]
 exact Prod.ext h.symm rfl
theorem ZgH:unT D6 D7=[sA,sB]:=by
 rw [Zm7]
 refine (Zbu (show Po [sA,sB] by unfold Po;decide+kernel) fun s=>?_).symm
 rw [show YY D6++YY D7=[sA,sB,sB,sA] from rfl]
 simp only [Xs,List.not_mem_nil,or_false]
 constructor
 · rintro (h|h)
   · exact .inl h
   · exact .inr (.inl h)
 · rintro (h|h|h|h)
   · exact .inl h
   · exact .inr h
   · exact .inr h
   · exact .inl h
theorem Zni:eqTX D6 D7=(false,[sB],0):=by
 have h2:=HJ D6 D7
 rw [ZgH] at h2
 unfold eqTX
 rw [UT ⟨ZgF,ZgG⟩,UT (by rw [←h2];decide),ZgH,Znf,Zng]
 dsimp only
 rw [Zlk];rfl
theorem Znj:Z4 Cw=true:=by kernel_rfl
theorem Zed:Wt Cw=[2,1,-1,1,0]:=by kernel_rfl
theorem Zlm:Zop Cw [2,1,-1,1,0] 5=false:=by kernel_rfl
theorem Zln:ZmA Cw [2,1,-1,1,0] 5 6=[[0,2],[0,1,2]]:=by kernel_rfl
theorem Jp:AggT prog 24 3=true:=by kernel_rfl
theorem Cx:AggT prog 39 5=true:=by kernel_rfl
theorem Tx:ElT prog 22 24 3 48 (.agg #[(.int .i64 0),(.string ByteArray.empty),(.slice none 0 0)]):=⟨underlying22,by kernel_rfl,rfl,dC⟩
theorem Dm:ElT prog 27 9 1 16 (.string ByteArray.empty):=⟨underlying27,by kernel_rfl,rfl,dC⟩
theorem Dn:ElT prog 71 27 1 24 (.slice none 0 0):=⟨underlying71,by kernel_rfl,rfl,dC⟩
theorem Zin:NoAgg prog 36=true:=by kernel_rfl
theorem Zee:NoAgg prog 9=true:=by kernel_rfl
theorem Cy:SlT prog 117 36 1=true:=by kernel_rfl
theorem Ty:SlT prog 27 9 1=true:=by kernel_rfl
theorem Do:WU prog 24=some ((.agg #[(.int .i64 0),(.string ByteArray.empty),(.slice none 0 0)]),([0,1,2]:List Nat).map fun o=>(o,1)):=by kernel_rfl
theorem Dp:ZeroT prog 24 (.agg #[(.int .i64 0),(.string ByteArray.empty),(.slice none 0 0)]):=by unfold ZeroT;kernel_rfl
theorem Zio:ZeroT prog 39 (.agg #[(.int .i64 0),(.int .i64 0),(.slice none 0 0),(.slice none 0 0),(.slice none 0 0)]):=by unfold ZeroT;kernel_rfl
theorem Zfy (e:Nat) (L:List (List ByteArray)) (x:List ByteArray):PV.own e 1 (L.length+1) (L.map Yq++[Yq x])= .own e 1 (L++[x]).length ((L++[x]).map Yq):=sM
theorem ZbK (e n:Nat) (l:List (List ByteArray)) (hn:n=l.length):share (.own e 1 n (l.map Yq))=OH l:=by
 subst hn
 rw [share,Yk,XH];rfl
set_option maxHeartbeats 1000000 in
theorem Zfz (t :Nd) (hf:FitT t) (hv:Ke t=true) {L:List ByteArray} {A:Aut} (hA:actR t=(L,0)) (hB:bldT L t=some A) (n:Int) (hn:0≤n∧n≤200) (W:List (List Int)) (hWl:W.length≤100000) (hWw:∀w∈W,w.length≤1000∧∀i∈w,0≤i∧i<L.length) (hW:AF prog 91 [ZN A,pInt n] (· = .tup [RX W,pInt 0])):AF prog 43 [pTr t,pInt n] (· = .tup [OH (W.map (nmI L)),pInt 0]):=by
 have e0:pTr t= .agg [pInt t.op,Yl t.act,Y0 t.l]:=rfl
 have hV:=Sl t hf
 rw [hv] at hV
 have hS:RS (bldT L t) (pInt A.n) (pInt A.syms) (pInts A.start) (pInts A.fin) (pMvs A.moves) 0:=⟨R5.aut A,by rw [hB];rfl, .inr ⟨A,hB,rfl,rfl,rfl,rfl,rfl,rfl⟩⟩
 have hj:=Zd8 t hf hA hS
 rw [e0] at hV hj ⊢
 refine AF.of_body 54 func43 rfl ntmps43 (Xa rfl) ?_
 intro w0 M0 vs hl hv
 obtain ⟨v0,v1,rfl⟩:=YI hl
 obtain rfl:=hv 1 _ _ rfl rfl
 clear hl hv
 refine Ze ?_
 (refine ZB 2 3 fun h2=>?_<;>refine xL 4 Za (xL 5 Za ?_)<;>refine Zi ?_)
 ((refine yL 13 (Zu 2 Jp) fun v13 h=>?_;cases h)<;>(refine cS 14 (cA call24 (hV)) fun v14 h=>?_;cases h)<;>refine xL 15 Ya ?_<;>refine Zc ?_)
 refine cX ?_ ?_<;>intro hb15
 · exact bN hb15
 · refine Ze ?_;(refine xL 16 Zb (xL 17 ZP (xL 18 Zb ?_))<;>(refine bLd 18 (fun hb18=>?_) (fun hb18=>?_)<;>(first|refine kL 19 ?_|refine xL 19 Zb ?_))<;>(first|refine kL 20 ?_|refine xL 20 Yr ?_)<;>refine xL 21 ZF ?_<;>refine Zc ?_)<;>(
 refine cX ?_ ?_<;>intro hb21
 · exfalso;first|omega|(simp_all;done)|(simp_all;omega)
 · refine Ze ?_;((refine yL 23 (Zu 2 Jp) fun v23 h=>?_;cases h)<;>(refine Zg7 24 (cA (call66) hj) (fun va24 vb24 vc24 hva24 hvb24 hvc24=>?_);cases hvc24)<;>refine xL 22 Zb (xL 25 Zj (xL 26 Zj (xL 27 Zj ?_)))<;>refine Zw [(.int .i64 0),(.int .i64 0),(.slice none 0 0),(.slice none 0 0),(.slice none 0 0)] 5 6 Zio fun h6=>?_<;>refine ZE 6 Cx ?_<;>refine xL 7 Za (xL 8 Za ?_)<;>refine Zi ?_)
   (refine xL 28 Zb (xL 29 Yv ?_)<;>refine Zc ?_)
   refine cX ?_ ?_<;>intro hb29
   · exact UU rfl hb29
   · refine Ze ?_;((refine yL 32 (Zu 6 Cx) fun v32 h=>?_;cases h)<;>refine xL 33 Zb ?_<;>(refine cP 34 (cA call91 (hW)) fun va34 vb34 hva34 h=>?_;cases h)<;>refine xL 31 Zb (xL 35 Zj (xL 36 Zj (xL 9 Za (xL 8 Za ?_))))<;>refine Zi ?_)
     (refine xL 37 Zb (xL 38 Yv ?_)<;>refine Zc ?_)
     refine cX ?_ ?_<;>intro hb38
     · exact UU rfl hb38
     · refine Ze ?_;(refine xL 10 Za ?_<;>refine Zi ?_)
       (refine xL 40 Zb (xL 41 (ZT Cy) (xL 42 Zb ?_))<;>refine Zc ?_)
       refine Zq (KB 200 27 1 rfl) fun _=>?_;refine ZD (ι:={q:Nat×Value//q.1≤W.length∧q.2.oneCell'=true}) (fun k=>⟨[(4,_,_),(5,_,_),(7,_,_),(8,_,_),(40,_,_),(41,_,_),(10,k.1.2, .val k.1.2),(42, .int .i64 k.1.1,pInt k.1.1)],[(2,_,_),(6,_,_),(200,k.1.2, .own 27 1 ((W.take k.1.1).map (nmI L)).length (((W.take k.1.1).map (nmI L)).map Yq))]⟩) (fun k=>W.length-k.1.1) ⟨(0, .slice none 0 0),Xd _,rfl⟩ (fun a w H=>H.weaken ⟨rfl,rfl,rfl,rfl,rfl,rfl,rfl,rfl,trivial⟩ ⟨rfl,rfl,rfl,trivial⟩) ?_;rintro ⟨⟨i,hv10⟩,hi,ho⟩;dsimp only;dsimp only at hi ho;(have hwl:((W.take i).map (nmI L)).length≤W.length:=by rw [Xe,Xo];omega);refine Ze ?_;(refine xL 43 ZP ?_<;>refine Zc ?_)
       refine cX ?_ ?_<;>intro hb43
       · first|exact bN hb43|(
 obtain ⟨w,hw⟩:=Zt (show i<W.length by omega);have e1:=Z7 (f:=pInts) hw;obtain ⟨hw1,hw2⟩:=hWw w (Xc hw);refine Ze ?_;(refine xL 44 (ZI Cy) ?_<;>(refine yL 45 (Z9 Zin) fun v45 h=>?_;cases h)<;>refine xL 12 Za ?_<;>refine Zi ?_)
 (refine xL 46 Zb (xL 47 Zb (xL 48 Zb ?_))<;>(refine cS 49 (cA call53 (Zah w L oM hw2)) fun v49 h=>?_;cases h)<;>refine ZO (kk:=1) 50 Dn fun h50 ho50=>?_<;>(refine ZW 200 50 51 Dn fun h51 ho51=>?_;refine Zs (ZC (l:=51) 200 rfl rfl) fun _=>?_;refine Zs (ZH (l:=200) (p':= .own 27 1 ((W.take (i+1)).map (nmI L)).length (((W.take (i+1)).map (nmI L)).map Yq)) rfl (by rw [ZR hw,Xu];exact Zfy _ _ _)) fun _=>?_)<;>refine xL 10 Za ?_<;>refine Zi ?_)
 (refine xL 52 ZG (xL 42 Zb ?_)<;>refine Zc ?_)
 refine Zm (
  ⟨(i+1,h51),Zf hw,ho51⟩
  ) (by dsimp only;omega) ⟨rfl,rfl,rfl,rfl,rfl,rfl,rfl,rfl,trivial⟩ ⟨rfl,rfl,rfl,trivial⟩)
       · first|exact bN hb43|(
 rw [Xj (show W.length≤i by omega)];refine Zq (En.freeze (l:=200) (t:=10) rfl rfl) fun _=>?_;rw [ZbK _ _ _ rfl];refine Ze ?_;(refine xL 53 Zb (xL 4 Za (xL 5 Za ?_))<;>refine Zc ?_)
 exact Wb (results43) rfl rfl rfl))
theorem Zox (s:ByteArray):Rr (.agg [pInt 1,Yl s, .val (.slice none 0 0)]) (pTr (lfT s)):=Rr.agg rfl fun i a b ha hb=>by
 match i with
 |0=>cases ha;cases hb;exact Rr.rfl' _
 |1=>cases ha;cases hb;exact Rr.rfl' _
 |2=>cases ha;cases hb;exact Rr.nil
 |i+3=>simp at ha
theorem Zef (a:List ByteArray):AF prog 14 [Yq a,Yq a] (· =ZM true):=by
 refine AF.of_body 26 func14 rfl ntmps14 (Xa rfl) ?_
 intro w0 M0 vs hl hv
 obtain ⟨v0,v1,rfl⟩:=YI hl
 clear hl hv
 refine YZ 0 rfl fun hlen=>?_
 refine Ze ?_
 (refine xL 4 Za ?_<;>refine Zi ?_)
 (refine xL 6 Zb (xL 7 (ZT Ty) (xL 8 Zb (xL 9 (ZT Ty) (xL 10 Yv ?_))))<;>refine Zc ?_)
 refine cX ?_ ?_<;>intro hb10
 · first|exact bN hb10|(
 refine Ze ?_;(refine xL 4 Za ?_<;>refine Zc ?_)
 exfalso;omega)
 · first | exact bN hb10|(
 refine Ze ?_;(refine xL 11 Zb (xL 12 (ZT Ty) (xL 13 Zb ?_))<;>refine Zc ?_)
 refine ZD (ι:={k:Nat//k≤a.length}) (fun k=>⟨[(0,_,_),(1,_,_),(12,_,_),(13, .int .i64 k.1,pInt k.1)],[]⟩) (fun k=>a.length-k.1) ⟨0,oM⟩ (fun a w H=>H.weaken ⟨rfl,rfl,rfl,rfl,trivial⟩ trivial) ?_;rintro ⟨k,hk⟩;dsimp only;refine Ze ?_;(refine xL 14 ZP ?_<;>refine Zc ?_)
 refine cX ?_ ?_<;>intro hb14
 · first |exact bN hb14|(
 obtain ⟨x,hx⟩:=Zt (show k<a.length by omega);have e1:=Z7 (f:=Yl) hx;refine Ze ?_;(refine xL 15 Zb (xL 5 Za ?_)<;>refine Zc ?_)
 (refine ZZ (fun i=>([]:List Nat).elem i) [] kR ?_<;>refine xD 0 16 rfl Zb ?_<;>refine xD 1 17 rfl Zb ?_<;>refine xD 2 18 rfl (ZI Ty) ?_<;>(refine yD 3 19 rfl (Z9 Zee) fun v19 h=>?_;cases h)<;>refine xD 4 20 rfl Zb ?_<;>refine xE 5 21 rfl Zb ?_<;>refine xE 6 22 rfl (ZI Ty) ?_<;>(refine yE 7 23 rfl (Z9 Zee) fun v23 h=>?_;cases h)<;>refine xE 8 24 rfl ZnU ?_<;>refine Yw kR (nav ?_)<;>try dsimp only)
 refine cX ?_ ?_<;>intro hb24
 · first|exact bN hb24|(
 refine Ze ?_;(refine xL 4 Za ?_<;>refine Zc ?_)
 exfalso;simp at hb24)
 · first|exact bN hb24|(
 refine Ze ?_;(refine xL 25 ZG (xL 13 Zb ?_)<;>refine Zc ?_)
 refine Zm (
  ⟨k+1,Zf hx⟩
  ) (by dsimp only;omega) ⟨rfl,rfl,rfl,rfl,trivial⟩ trivial))
 · first|exact bN hb14|(
 refine Ze ?_;(refine xL 4 Za ?_<;>refine Zc ?_)
 exact Zz (results14) rfl rfl))
theorem Cz (s:ByteArray):AF prog 41 [Yl s] (· =pTr (lfT s)):=by
 refine AF.reread (p:= .agg [pInt 1,Yl s, .val (.slice none 0 0)]) ?_ rfl (Zox s)
 refine AF.of_body 5 func41 rfl ntmps41 (Xa rfl) ?_
 intro w0 M0 vs hl hv
 obtain ⟨v0,rfl⟩:=Wl hl
 obtain rfl:=hv 0 _ _ rfl rfl
 clear hl hv
 refine Ze ?_
 (refine Zw [(.int .i64 0),(.string ByteArray.empty),(.slice none 0 0)] 3 2 Dp fun h2=>?_<;>refine Zi ?_)
 (refine xL 3 Zb (xL 4 (ZL Do) ?_)<;>refine ZE 2 Jp ?_<;>refine Zc ?_)
 exact PM (k:=3) 2 kR (results41) rfl rfl (Xa rfl) dC rfl rfl
theorem Tz (o:Int) (l:List Nd):AF prog 42 [pInt o,Y0 l] (· =pTr (opT o l)):=by
 refine AF.of_body 8 func42 rfl ntmps42 (Xa rfl) ?_
 intro w0 M0 vs hl hv
 obtain ⟨v0,v1,rfl⟩:=YI hl
 obtain rfl:=hv 0 _ _ rfl rfl
 clear hl hv
 refine Ze ?_
 (refine Zw [(.int .i64 0),(.string ByteArray.empty),(.slice none 0 0)] 3 4 Dp fun h4=>?_<;>refine Zi ?_)
 (refine xL 5 Zb (xL 6 Zb (xL 7 (ZL Do) ?_))<;>refine ZE 4 Jp ?_<;>refine Zc ?_)
 exact PM (k:=3) 4 kR (results42) rfl rfl (Xa rfl) dC rfl rfl
theorem ZfA:AF prog 91 [ZN Cw,pInt 5] (· = .tup [RX [[0,2],[0,1,2]],pInt 0]):=(ZjF Cw 5).mono fun p hp=>by
 rcases hp with ⟨h,_⟩|⟨_,h,_⟩|⟨_,_,_,h,_⟩|⟨_,_,_,_,h⟩
 · rw [Znj] at h;cases h
 · omega
 · rw [ZmB,Zed,show (5:Int).toNat=5 from rfl,Zlm] at h;cases h
 · rw [h,Zgn,Zed,show (5:Int).toNat=5 from rfl,Zln]
theorem ZfB {t:Nd} (h:Ke t=true):FitT t:=ZlU t (Sj h) (by have:=RV h;omega)
theorem Zoy:AF prog 43 [pTr Cv,pInt 5] (· = .tup [OH [[sA,sC],[sA,sB,sC]],pInt 0]):=
 Zfz Cv (ZfB ZbJ) ZbJ Znh Zne 5 dC [[0,2],[0,1,2]] dC dC ZfA
theorem Zoz:AF prog 12 [pTr D6,pTr D7] (· = .tup [ZM false,Yq [sB],pInt 0]):=by
 have:=Cu D6 D7 (ZfB ZgF) (ZfB ZgG)
 rw [Zni] at this
 exact this
theorem OC (x y:Nd):PV.sl 2 (cN x++cN y)=Y0 [x,y]:=by unfold Y0;rw [Ra];simp
theorem ZfC (x y z:Nd):PV.sl 3 (cN x++(cN y++cN z))=Y0 [x,y,z]:=by unfold Y0;rw [Ra];simp
theorem Zip:PP [[sA,sC],[sA,sB,sC]] [[sA,sC],[sA,sB,sC]]=true:=by decide+kernel
set_option maxHeartbeats 4000000 in
theorem CB:AF prog 10 [] (· =ZM true):=by
 have hactA:=Cz sA
 have hactB:=Cz sB
 have hactC:=Cz sC
 have hS:Rr (.agg [pInt 2, .val (.string ByteArray.empty), .val (.slice none 0 0)]) (pTr (opT 2 [])):=Zn5
 refine AF.of_body 72 func10 rfl ntmps10 (Xa rfl) ?_
 intro w0 M0 vs hl hv
 obtain rfl:=XR hl
 clear hl hv
 refine Ze ?_
 (refine xL 0 Za ?_<;>refine Zi ?_)
 (refine xL 1 Za ?_<;>refine Zi ?_)
 (refine xL 2 Za ?_<;>refine Zi ?_)
 ((refine xL 9 (ZL Do) ?_;refine Zs (Zi0 (t:=9) (p':=pTr (opT 2 [])) rfl hS) fun _=>?_)<;>refine Zw [(.int .i64 0),(.string ByteArray.empty),(.slice none 0 0)] 3 3 Dp fun h3=>?_<;>refine ZE 3 Jp ?_<;>refine Zc ?_)
 (refine ZZ (fun i=>([18]:List Nat).elem i) [3] kR ?_<;>refine xD 0 11 rfl Zb ?_<;>refine xD 1 12 rfl Zb ?_<;>refine xD 3 14 rfl Zb ?_<;>refine xD 4 15 rfl Zb ?_<;>(refine yD 6 17 rfl (Zu 3 Jp) fun v17 h=>?_;cases h)<;>refine xD 9 20 rfl Zb ?_<;>(refine Zr 2 kR ?_)<;>(refine WO (d:=13) rfl (Gl (f:=41) (ps:=[]) rfl ⟨_,rfl⟩ (call41) rfl hactA) fun v13 h=>?_;cases h)<;>(refine Zr 5 kR ?_)<;>(refine WO (d:=16) rfl (Gl (f:=41) (ps:=[]) rfl ⟨_,rfl⟩ (call41) rfl hactB) fun v16 h=>?_;cases h)<;>(refine Zr 7 kR ?_)<;>(refine Zo rfl fun w9 M9 N9 DQ back=>?_)<;>(refine H7 (kk:=3) (xs:=[_,_]) (cs:=[[_,_,_],[_,_,_]]) 18 Tx fun h18 ho18=>?_;refine Zs (En.freeze (l:=18) (t:=18) rfl rfl) fun _=>?_;refine Zs (Wx (t:=18) (p':=Y0 [lfT sB,opT 2 []]) rfl (Eq.trans (show _=PV.sl 2 (cN (lfT sB)++cN (opT 2 [])) from rfl) (OC _ _))) fun _=>?_)<;>refine Zl (back _ (nrm ?_))<;>(refine Zr 8 kR ?_)<;>(refine WO (d:=19) rfl (Gl (f:=42) (ps:=[]) rfl ⟨_,rfl⟩ (call42) rfl (Tz 4 [lfT sB,opT 2 []])) fun v19 h=>?_;cases h)<;>(refine Zr 10 kR ?_)<;>(refine WO (d:=21) rfl (Gl (f:=41) (ps:=[]) rfl ⟨_,rfl⟩ (call41) rfl hactC) fun v21 h=>?_;cases h)<;>(refine Zr 11 kR ?_)<;>(refine Zo rfl fun w9 M9 N9 DQ back=>?_)<;>(refine H7 (kk:=3) (xs:=[_,_,_]) (cs:=[[_,_,_],[_,_,_],[_,_,_]]) 22 Tx fun h22 ho22=>?_;refine Zs (En.freeze (l:=22) (t:=22) rfl rfl) fun _=>?_;refine Zs (Wx (t:=22) (p':=Y0 [lfT sA,opT 4 [lfT sB,opT 2 []],lfT sC]) rfl (Eq.trans (show _=PV.sl 3 (cN (lfT sA)++(cN (opT 4 [lfT sB,opT 2 []])++cN (lfT sC))) from rfl) (ZfC _ _ _))) fun _=>?_)<;>refine Zl (back _ (nrm ?_))<;>(refine Zr 12 kR ?_)<;>(refine WO (d:=23) rfl (Gl (f:=42) (ps:=[]) rfl ⟨_,rfl⟩ (call42) rfl (Tz 3 [lfT sA,opT 4 [lfT sB,opT 2 []],lfT sC])) fun v23 h=>?_;cases h)<;>(refine Zr 13 kR ?_)<;>(refine Zo rfl fun w9 M9 N9 DQ back=>?_)<;>(refine cP 24 (cA call43 (Zoy)) fun va24 vb24 hva24 h=>?_;cases h)<;>refine Zl (back _ (nrm ?_))<;>refine xE 14 10 rfl Zb ?_<;>refine xD 15 25 rfl Zj ?_<;>refine xD 16 26 rfl Zj ?_<;>refine xE 17 4 rfl Za ?_<;>refine xE 18 5 rfl Za ?_<;>refine Yw kR (nav ?_)<;>try dsimp only)
 (refine ZZ (fun i=>([25]:List Nat).elem i) [3] kR ?_<;>refine xD 0 28 rfl Zb ?_<;>refine xD 1 29 rfl Zb ?_<;>refine xD 3 31 rfl Zb ?_<;>refine xD 4 32 rfl Zb ?_<;>(refine yD 6 34 rfl (Zu 3 Jp) fun v34 h=>?_;cases h)<;>refine xD 11 39 rfl Zb ?_<;>refine xD 12 40 rfl Zb ?_<;>refine xD 14 42 rfl Zb ?_<;>(refine Zr 2 kR ?_)<;>(refine WO (d:=30) rfl (Gl (f:=41) (ps:=[]) rfl ⟨_,rfl⟩ (call41) rfl hactA) fun v30 h=>?_;cases h)<;>(refine Zr 5 kR ?_)<;>(refine WO (d:=33) rfl (Gl (f:=41) (ps:=[]) rfl ⟨_,rfl⟩ (call41) rfl hactB) fun v33 h=>?_;cases h)<;>(refine Zr 7 kR ?_)<;>(refine Zo rfl fun w9 M9 N9 DQ back=>?_)<;>(refine H7 (kk:=3) (xs:=[_,_]) (cs:=[[_,_,_],[_,_,_]]) 35 Tx fun h35 ho35=>?_;refine Zs (En.freeze (l:=35) (t:=35) rfl rfl) fun _=>?_;refine Zs (Wx (t:=35) (p':=Y0 [lfT sB,opT 2 []]) rfl (Eq.trans (show _=PV.sl 2 (cN (lfT sB)++cN (opT 2 [])) from rfl) (OC _ _))) fun _=>?_)<;>refine Zl (back _ (nrm ?_))<;>(refine Zr 8 kR ?_)<;>(refine WO (d:=36) rfl (Gl (f:=42) (ps:=[]) rfl ⟨_,rfl⟩ (call42) rfl (Tz 6 [lfT sB,opT 2 []])) fun v36 h=>?_;cases h)<;>(refine Zr 9 kR ?_)<;>(refine Zo rfl fun w9 M9 N9 DQ back=>?_)<;>(refine H7 (kk:=3) (xs:=[_,_]) (cs:=[[_,_,_],[_,_,_]]) 37 Tx fun h37 ho37=>?_;refine Zs (En.freeze (l:=37) (t:=37) rfl rfl) fun _=>?_;refine Zs (Wx (t:=37) (p':=Y0 [lfT sA,opT 6 [lfT sB,opT 2 []]]) rfl (Eq.trans (show _=PV.sl 2 (cN (lfT sA)++cN (opT 6 [lfT sB,opT 2 []])) from rfl) (OC _ _))) fun _=>?_)<;>refine Zl (back _ (nrm ?_))<;>(refine Zr 10 kR ?_)<;>(refine WO (d:=38) rfl (Gl (f:=42) (ps:=[]) rfl ⟨_,rfl⟩ (call42) rfl (Tz 5 [lfT sA,opT 6 [lfT sB,opT 2 []]])) fun v38 h=>?_;cases h)<;>(refine Zr 13 kR ?_)<;>(refine WO (d:=41) rfl (Gl (f:=41) (ps:=[]) rfl ⟨_,rfl⟩ (call41) rfl hactB) fun v41 h=>?_;cases h)<;>(refine Zr 15 kR ?_)<;>(refine WO (d:=43) rfl (Gl (f:=41) (ps:=[]) rfl ⟨_,rfl⟩ (call41) rfl hactA) fun v43 h=>?_;cases h)<;>(refine Zr 16 kR ?_)<;>(refine Zo rfl fun w9 M9 N9 DQ back=>?_)<;>(refine H7 (kk:=3) (xs:=[_,_]) (cs:=[[_,_,_],[_,_,_]]) 44 Tx fun h44 ho44=>?_;refine Zs (En.freeze (l:=44) (t:=44) rfl rfl) fun _=>?_;refine Zs (Wx (t:=44) (p':=Y0 [lfT sB,lfT sA]) rfl (Eq.trans (show _=PV.sl 2 (cN (lfT sB)++cN (lfT sA)) from rfl) (OC _ _))) fun _=>?_)<;>refine Zl (back _ (nrm ?_))<;>(refine Zr 17 kR ?_)<;>(refine WO (d:=45) rfl (Gl (f:=42) (ps:=[]) rfl ⟨_,rfl⟩ (call42) rfl (Tz 6 [lfT sB,lfT sA])) fun v45 h=>?_;cases h)<;>(refine Zr 18 kR ?_)<;>(refine Zo rfl fun w9 M9 N9 DQ back=>?_)<;>(refine Zg7 46 (cA (call12) Zoz) (fun va46 vb46 vc46 hva46 hvb46 hvc46=>?_);cases hva46;cases hvc46)<;>refine Zl (back _ (nrm ?_))<;>refine xE 19 27 rfl Zb ?_<;>refine xD 20 47 rfl Zj ?_<;>refine xD 21 48 rfl Zj ?_<;>refine xD 22 49 rfl Zj ?_<;>refine xE 23 6 rfl Za ?_<;>refine xE 24 7 rfl Za ?_<;>refine xE 25 8 rfl Za ?_<;>refine Yw kR (nav ?_)<;>try dsimp only)
 (refine Zv ?_<;>refine xL 50 Zb ?_<;>(refine HT (xs:=[_,_]) 51 Dm fun h51 ho51=>?_;refine Zs (En.freeze (l:=51) (t:=51) rfl rfl) fun _=>?_;refine Zs (Wx (t:=51) (p':=Yq [sA,sC]) rfl rfl) fun _=>?_)<;>(refine HT (xs:=[_,_,_]) 52 Dm fun h52 ho52=>?_;refine Zs (En.freeze (l:=52) (t:=52) rfl rfl) fun _=>?_;refine Zs (Wx (t:=52) (p':=Yq [sA,sB,sC]) rfl rfl) fun _=>?_)<;>(refine HT (xs:=[_,_]) 53 Dn fun h53 ho53=>?_;refine Zs (En.freeze (l:=53) (t:=53) rfl rfl) fun _=>?_;refine Zs (Wx (t:=53) (p':=OH [[sA,sC],[sA,sB,sC]]) rfl rfl) fun _=>?_)<;>(refine cS 54 (cA call44 ((Zev [[sA,sC],[sA,sB,sC]] [[sA,sC],[sA,sB,sC]]).mono (R':=(· =ZM true)) fun p hp=>by rw [hp,Zip])) fun v54 h=>?_;cases h)<;>refine xL 55 Zb (xL 56 Zb (xL 57 RY (xL 58 ZF (xL 59 Zb (xL 60 Zb (xL 61 Ya (xL 62 ZF (xL 63 Zb (xL 64 Zb ?_)))))))))<;>(refine ZO (kk:=1) 65 Dm fun h65 ho65=>?_;refine Zs (En.freeze (l:=65) (t:=65) rfl rfl) fun _=>?_;refine Zs (Wx (t:=65) (p':=Yq [sB]) rfl rfl) fun _=>?_)<;>(refine cS 66 (cA call14 (Zef [sB])) fun v66 h=>?_;cases h)<;>refine xL 67 ZF (xL 68 Zb (xL 69 Zb (xL 70 RY (xL 71 ZF (xL 0 Za ?_)))))<;>refine Zc ?_)<;>(
 exact Zz results10 rfl rfl)
theorem KZ:AggT prog 24 3=true:=by kernel_rfl
theorem Zeg:FldT prog 24 0 0=true:=by kernel_rfl
theorem Zeh:FldT prog 24 1 1=true:=by kernel_rfl
theorem S6:FldT prog 24 2 2=true:=by kernel_rfl
theorem Dq:NoAgg prog 22=true:=by kernel_rfl
theorem Zlo:NoAgg prog 3=true:=by kernel_rfl
theorem Zlp:NoAgg prog 9=true:=by kernel_rfl
theorem TA:SlT prog 22 24 3=true:=by kernel_rfl
theorem Ziq:SlT prog 27 9 1=true:=by kernel_rfl
theorem ZaD:ZeroT prog 24 (.agg #[(.int .i64 0),(.string ByteArray.empty),(.slice none 0 0)]):=by unfold ZeroT;kernel_rfl
mutual
def OD:Nd→Int→Int→Int
 | .mk _ a l,m,d=>if 70<d∨100<(a.size:Int)∨m<(l.length:Int) then m else Dr l m d 1
def Dr:List Nd→Int→Int→Int→Int
 |[],m,_,n=>min n m
 |x::l,m,d,n=>if m≤n then m else Dr l m d (n+OD x (m-n) (d+1))
end
theorem ZoA:∀(t:Nd) (m d:Int),1≤m→1≤OD t m d∧OD t m d≤m:=Nd.ind fun o a l ih m d hm=>by
 rw [OD]
 split
 · omega
 have key:∀(k:List Nd),(∀x∈k,x∈l)→∀n:Int,1≤n→1≤Dr k m d n∧Dr k m d n≤m:=fun k=>by
  induction k with
  |nil=>intro _ n hn;rw [Dr];omega
  | cons x k ihk=>
    intro hk n hn;rw [Dr];split
    · omega
    · have:=ih x (hk x (Xm ..)) (m-n) (d+1) oM;exact ihk (fun y hy=>hk y (Xn _ hy)) _ oM
 exact key l (fun _ h=>h) 1 (VV _)
theorem Zir {l:List Nd} {k:Nat} {x:Nd} (hx:l[k]? =some x) (m d n:Int):Dr (l.drop k) m d n=if m≤n then m else Dr (l.drop (k+1)) m d (n+OD x (m-n) (d+1)):=by
 rw [VL (Zf hx),(XK.1 hx).2,Dr]
mutual
def K0:Nd→Int
 | .mk o _ l=>Hg o l 2
def Hg:Int→List Nd→Int→Int
 |_,[],n=>n
 |o,x::l,n=>Hg o l (min (if o=5 then n*K0 x else n+K0 x) 100000)
end
theorem ZoB:∀(t:Nd),2≤K0 t∧K0 t≤100000:=Nd.ind fun o a l ih=>by
 rw [K0]
 have key:∀(k:List Nd),(∀x∈k,x∈l)→∀n:Int,2≤n→n≤100000→2≤Hg o k n∧Hg o k n≤100000:=fun k=>by
  induction k with
  |nil=>intro _ n hn hm;rw [Hg];exact ⟨hn,hm⟩
  | cons x k ihk=>
    intro hk n hn hm;rw [Hg];have h1:=ih x (hk x (Xm ..));refine ihk (fun y hy=>hk y (Xn _ hy)) _ ?_ oM;split
    · have:2*2≤n*K0 x:=Int.mul_le_mul hn h1.1 oM oM;omega
    · omega
 exact key l (fun _ h=>h) 2 (VV _) oM
theorem Zis {l:List Nd} {k:Nat} {x:Nd} (o:Int) (hx:l[k]? =some x) (n:Int):Hg o (l.drop k) n=Hg o (l.drop (k+1)) (min (if o=5 then n*K0 x else n+K0 x) 100000):=by
 rw [VL (Zf hx),(XK.1 hx).2,Hg]
set_option maxHeartbeats 2000000 in
theorem ZfD :∀(t:Nd),FitT t→∀(m d:Int),1≤m→m≤1000→1≤d→d≤100→AF prog 27 [pTr t,pInt m,pInt d] (· =pInt (OD t m d)):=Nd.ind fun o a l ih hf m d hm1 hm2 hd1 hd2=>by
 have e0:pTr (.mk o a l)= .agg [pInt o,Yl a,Y0 l]:=rfl
 rw [e0]
 have hl:=hf.len
 have hp:=hf.p
 have ha:=hf.sz
 simp only [Nd.l,Nd.act] at hl hp ha
 refine AF.of_body 50 func27 rfl ntmps27 (Xa rfl) ?_
 intro w0 M0 vs hl hv
 obtain ⟨v0,v1,v2,rfl⟩:=LX hl
 obtain rfl:=hv 1 _ _ rfl rfl
 obtain rfl:=hv 2 _ _ rfl rfl
 clear hl hv
 refine Ze ?_
 (refine ZB 3 3 fun h3=>?_<;>refine xL 6 Za ?_<;>refine Zi ?_)
 (refine xL 10 Zb (xL 11 Yr (xL 12 Zb ?_))<;>(refine bLd 12 (fun hb12=>?_) (fun hb12=>?_)<;>(first|refine kL 13 ?_|refine xL 13 (Zd 3 Zeh) ?_))<;>(first|refine kL 14 ?_|(refine yL 14 (Zk 3 Zlp) fun v14 h=>?_;cases h))<;>(first|refine kL 15 ?_|refine xL 15 (Sf underlying9) ?_)<;>(first|refine kL 16 ?_|refine xL 16 Yr ?_)<;>refine xL 17 ZF (xL 18 Zb ?_)<;>(first|refine kL 19 ?_|(refine bLd 18 (fun hb18=>?_) (fun hb18=>?_)<;>(first|refine kL 19 ?_|refine xL 19 (Zd 3 S6) ?_)))<;>(first|refine kL 20 ?_|(refine yL 20 (Zk 3 Dq) fun v20 h=>?_;cases h))<;>(first|refine kL 21 ?_|refine xL 21 (ZT TA) ?_)<;>(first|refine kL 22 ?_|refine xL 22 Zb ?_)<;>(first|refine kL 23 ?_|refine xL 23 Yr ?_)<;>refine xL 24 ZF ?_<;>refine Zc ?_)<;>(
 refine cX ?_ ?_<;>intro hb24
 · first|exact bN hb24|(
 (have hc:70<d∨100<(a.size:Int)∨m<(l.length:Int):=by simp_all);(have hX:OD (.mk o a l) m d=m:=by rw [OD,UT hc]);rw [hX];refine Ze ?_;(refine xL 25 Zb (xL 6 Za ?_)<;>refine Zc ?_)
 exact Zz results27 rfl rfl)
 · first | exact bN hb24|(
 (have hc:¬(70<d∨100<(a.size:Int)∨m<(l.length:Int)):=by simp_all);(have hX:OD (.mk o a l) m d=Dr l m d 1:=by rw [OD,US hc]);rw [hX];have hd3:d≤70:=oM;refine Ze ?_;(refine xL 7 Za ?_<;>refine Zi ?_)
 (refine xL 26 (Zd 3 S6) ?_<;>(refine yL 27 (Zk 3 Dq) fun v27 h=>?_;cases h)<;>refine xL 28 (ZT TA) (xL 29 Zb ?_)<;>refine Zc ?_)
 refine ZD (ι:={q:Nat×Int//q.1≤l.length∧1≤q.2∧q.2≤m∧Dr (l.drop q.1) m d q.2=Dr l m d 1}) (fun k=>⟨[(1,_,_),(2,_,_),(27,_,_),(28,_,_),(7, .int .i64 k.1.2,pInt k.1.2),(29, .int .i64 k.1.1,pInt k.1.1)],[(3,_,_)]⟩) (fun k=>l.length-k.1.1) ⟨(0,1),Xd _,VV _,hm1,rfl⟩ (fun a w H=>H.weaken ⟨rfl,rfl,rfl,rfl,rfl,rfl,trivial⟩ ⟨rfl,trivial⟩) ?_;rintro ⟨⟨i,n⟩,hi,hn1,hn2,hq⟩;dsimp only;dsimp only at hi hn1 hn2 hq;refine Ze ?_;(refine xL 30 ZP ?_<;>refine Zc ?_)
 refine cX ?_ ?_<;>intro hb30
 · first |exact bN hb30|(
 obtain ⟨x,hx⟩:=Zt (show i<l.length by omega);have e1:((Lo l).drop (i*3)).take 3=[pInt x.op,Yl x.act,Y0 x.l]:=KF hx;have e2:=JO hx;rw [Zir hx] at hq;refine Ze ?_;(refine xL 31 (ZI TA) ?_<;>(refine yL 32 (Wn KZ) fun v32 h=>?_;cases h)<;>refine Zw [(.int .i64 0),(.string ByteArray.empty),(.slice none 0 0)] 3 9 ZaD fun h9=>?_<;>refine ZE 9 KZ ?_<;>refine Zi ?_)
 (refine xL 33 Zb (xL 34 Zb (xL 35 Wi ?_))<;>refine Zc ?_)
 refine cX ?_ ?_<;>intro hb35
 · first|exact bN hb35|(
 refine Ze ?_;(refine xL 36 Zb (xL 6 Za ?_)<;>refine Zc ?_)
 refine Zz (results27) rfl ?_;rw [UT oM] at hq;rw [←hq])
 · first|exact bN hb35|(
 rw [US oM] at hq;have hcb:=ZoA x (m-n) (d+1) oM;refine Ze ?_;(refine xL 37 Zb ?_<;>(refine yL 38 (Zu 9 KZ) fun v38 h=>?_;cases h)<;>refine xL 39 Zb (xL 40 Zb (xL 41 K7 (xL 42 Zb (xL 43 ZG ?_))))<;>(refine cS 44 (cA call27 (ih x (Xc hx) (hp x (Xc hx)) (m-n) (d+1) oM oM oM oM)) fun v44 h=>?_;cases h)<;>refine xL 45 ZG (xL 7 Za ?_)<;>refine Zi ?_)
 (refine xL 46 ZG (xL 29 Zb ?_)<;>refine Zc ?_)
 refine Zm (
  ⟨(i+1,n+OD x (m-n) (d+1)),Zf hx,by dsimp only;omega,by dsimp only;omega,hq⟩
  ) (by dsimp only;omega) ⟨rfl,rfl,rfl,rfl,rfl,rfl,trivial⟩ ⟨rfl,trivial⟩))
 · first|exact bN hb30|(
 rw [Vr (show l.length≤i by omega),Dr] at hq;refine Ze ?_;(refine xL 47 Zb (xL 48 Zb (xL 49 Zi1 (xL 6 Za ?_)))<;>refine Zc ?_)
 refine Zz (results27) rfl ?_;rw [←hq];(have hmn:(if m<n then m else n)=min n m:=by split<;>omega);rw [←hmn])))
set_option maxHeartbeats 2000000 in
theorem Zei :∀(t:Nd),FitT t→AF prog 47 [pTr t] (· =pInt (K0 t)):=Nd.ind fun o a l ih hf=>by
 have e0:pTr (.mk o a l)= .agg [pInt o,Yl a,Y0 l]:=rfl
 rw [e0]
 have hl:=hf.len
 have hp:=hf.p
 simp only [Nd.l,Nd.act] at hl hp
 refine AF.of_body 29 func47 rfl ntmps47 (Xa rfl) ?_
 intro w0 M0 vs hl hv
 obtain ⟨v0,rfl⟩:=Wl hl
 clear hl hv
 refine Ze ?_
 (refine ZB 1 3 fun h1=>?_<;>refine xL 2 Za ?_<;>refine Zi ?_)
 (refine xL 3 Za ?_<;>refine Zi ?_)
 (refine xL 7 (Zd 1 S6) ?_<;>(refine yL 8 (Zk 1 Dq) fun v8 h=>?_;cases h)<;>refine xL 9 (ZT TA) (xL 10 Zb ?_)<;>refine Zc ?_)
 refine ZD (ι:={q:Nat×Int//q.1≤l.length∧2≤q.2∧q.2≤100000∧Hg o (l.drop q.1) q.2=Hg o l 2}) (fun k=>⟨[(1,_,_),(8,_,_),(9,_,_),(3, .int .i64 k.1.2,pInt k.1.2),(10, .int .i64 k.1.1,pInt k.1.1)],[(1,_,_)]⟩) (fun k=>l.length-k.1.1) ⟨(0,2),Xd _,VV _,by dsimp only;omega,rfl⟩ (fun a w H=>H.weaken ⟨rfl,rfl,rfl,rfl,rfl,trivial⟩ ⟨rfl,trivial⟩) ?_
 rintro ⟨⟨i,n⟩,hi,hn1,hn2,hq⟩
 dsimp only
 dsimp only at hi hn1 hn2 hq
 refine Ze ?_
 (refine xL 11 ZP ?_<;>refine Zc ?_)
 refine cX ?_ ?_<;>intro hb11
 · first | exact bN hb11|(
 obtain ⟨x,hx⟩:=Zt (show i<l.length by omega);have e1:((Lo l).drop (i*3)).take 3=[pInt x.op,Yl x.act,Y0 x.l]:=KF hx;have e2:=JO hx;rw [Zis o hx] at hq;have hw:=ZoB x;have hmul:2*2≤n*K0 x∧n*K0 x≤100000*100000:=⟨Int.mul_le_mul hn1 hw.1 oM oM,Int.mul_le_mul hn2 hw.2 oM oM⟩;refine Ze ?_;(refine xL 12 (ZI TA) ?_<;>(refine yL 13 (Wn KZ) fun v13 h=>?_;cases h)<;>refine Zw [(.int .i64 0),(.string ByteArray.empty),(.slice none 0 0)] 3 5 ZaD fun h5=>?_<;>refine ZE 5 KZ ?_<;>refine Zi ?_)
 ((refine yL 14 (Zu 5 KZ) fun v14 h=>?_;cases h)<;>(refine cS 15 (cA call47 (ih x (Xc hx) (hp x (Xc hx)))) fun v15 h=>?_;cases h)<;>refine xL 6 Za ?_<;>refine Zi ?_)
 (refine xL 16 (Zd 1 Zeg) ?_<;>(refine yL 17 (Zk 1 Zlo) fun v17 h=>?_;cases h)<;>refine xL 18 Ye ?_<;>refine Zc ?_)
 refine cX ?_ ?_<;>intro hb18
 · first |exact bN hb18|(
 rw [UT (show o=5 from hb18)] at hq;(have hmn:(if 100000<n*K0 x then 100000 else n*K0 x)=min (n*K0 x) 100000:=by split<;>omega);rw [←hmn] at hq;(have hb:2≤(if 100000<n*K0 x then 100000 else n*K0 x)∧(if 100000<n*K0 x then 100000 else n*K0 x)≤100000:=by split<;>omega);refine Ze ?_;(refine xL 19 Zb (xL 20 Zb (xL 21 Jr (xL 22 Zi1 (xL 3 Za ?_))))<;>refine Zi ?_)
 (refine xL 27 ZG (xL 10 Zb ?_)<;>refine Zc ?_)
 first
  | (exact Zm (
      ⟨(i+1,if 100000<n*K0 x then 100000 else n*K0 x),Zf hx,hb.1,hb.2,hq⟩
      ) (by dsimp only;omega) ⟨rfl,rfl,rfl,rfl,rfl,trivial⟩ ⟨rfl,trivial⟩)
  | (exact Zm (
      ⟨(i+1,if 100000<n+K0 x then 100000 else n+K0 x),Zf hx,hb.1,hb.2,hq⟩
      ) (by dsimp only;omega) ⟨rfl,rfl,rfl,rfl,rfl,trivial⟩ ⟨rfl,trivial⟩))
 · first |exact bN hb18|(
 rw [US (show ¬o=5 from hb18)] at hq;(have hmn:(if 100000<n+K0 x then 100000 else n+K0 x)=min (n+K0 x) 100000:=by split<;>omega);rw [←hmn] at hq;(have hb:2≤(if 100000<n+K0 x then 100000 else n+K0 x)∧(if 100000<n+K0 x then 100000 else n+K0 x)≤100000:=by split<;>omega);refine Ze ?_;(refine xL 23 Zb (xL 24 Zb (xL 25 ZG (xL 26 Zi1 (xL 3 Za ?_))))<;>refine Zi ?_)
 (refine xL 27 ZG (xL 10 Zb ?_)<;>refine Zc ?_)
 first
  | (exact Zm (
      ⟨(i+1,if 100000<n*K0 x then 100000 else n*K0 x),Zf hx,hb.1,hb.2,hq⟩
      ) (by dsimp only;omega) ⟨rfl,rfl,rfl,rfl,rfl,trivial⟩ ⟨rfl,trivial⟩)
  | (exact Zm (
      ⟨(i+1,if 100000<n+K0 x then 100000 else n+K0 x),Zf hx,hb.1,hb.2,hq⟩
      ) (by dsimp only;omega) ⟨rfl,rfl,rfl,rfl,rfl,trivial⟩ ⟨rfl,trivial⟩)))
 · first|exact bN hb11|(
 rw [Vr (show l.length≤i by omega),Hg] at hq;refine Ze ?_;(refine xL 28 Zb (xL 2 Za ?_)<;>refine Zc ?_)
 refine Zz (results47) rfl ?_;rw [K0,←hq])
def Znk (t:Nd):Bool:=decide (14≤OD t 14 1)||decide (200<K0 t)
theorem Zej (t:Nd) (hf:FitT t):AF prog 46 [pTr t] (· =ZM (Znk t)):=by
 have e0:pTr t= .agg [pInt t.op,Yl t.act,Y0 t.l]:=rfl
 have hC:=ZfD t hf 14 1 dC dC dC dC
 have hW:=Zei t hf
 rw [e0] at hC hW ⊢
 refine AF.of_body 11 func46 rfl ntmps46 (Xa rfl) ?_
 intro w0 M0 vs hl hv
 obtain ⟨v0,rfl⟩:=Wl hl
 clear hl hv
 refine Ze ?_
 (refine ZB 1 3 fun h1=>?_<;>refine xL 2 Za ?_<;>refine Zi ?_)
 ((refine yL 3 (Zu 1 KZ) fun v3 h=>?_;cases h)<;>(refine cS 4 (cA call27 (hC)) fun v4 h=>?_;cases h)<;>refine xL 5 Wi (xL 6 Zb ?_)<;>(refine bLd 6 (fun hb6=>?_) (fun hb6=>?_)<;>(first|refine kL 7 ?_|(refine yL 7 (Zu 1 KZ) fun v7 h=>?_;cases h)))<;>(first|refine kL 8 ?_|(refine cS 8 (cA call47 (hW)) fun v8 h=>?_;cases h))<;>(first|refine kL 9 ?_|refine xL 9 Yr ?_)<;>refine xL 10 ZF (xL 2 Za ?_)<;>refine Zc ?_)<;>(
 refine Zz (results46) rfl ?_;unfold Znk
 first|(rw [show decide (14≤OD t 14 1)=true from hb6];rfl)|(rw [show decide (14≤OD t 14 1)=false from hb6];rfl)|(rw [UQ hb6];rfl)|(rw [UR hb6];rfl))
theorem ZfE (l:List Nd) (hl:l.length≤1000) (hf:∀t∈l,FitT t):AF prog 11 [Y0 l] (· =ZM (!l.any Znk)):=by
 refine AF.of_body 6 func11 rfl ntmps11 (Xa rfl) ?_
 intro w0 M0 vs hl hv
 obtain ⟨v0,rfl⟩:=Wl hl
 clear hl hv
 refine Ze ?_
 (refine xL 2 Za ?_<;>refine Zi ?_)
 (refine xL 3 Zb ?_<;>(refine cS 4 (cA call45 (CE 46 Znk l oM (call46) (fun t ht=>Zej t (hf t ht)))) fun v4 h=>?_;cases h)<;>refine xL 5 Ya (xL 2 Za ?_)<;>refine Zc ?_)
 exact Zz results11 rfl rfl
def Zpl (l:List ByteArray) (n:Int):Bool:=decide ((l.length:Int)≤n)&& !(l.any fun s=>decide (100<(s.size:Int)))
theorem Zek (s:ByteArray):AF prog 60 [Yl s] (· =ZM (decide (100<(s.size:Int)))):=by
 refine AF.of_body 6 func60 rfl ntmps60 (Xa rfl) ?_
 intro w0 M0 vs hl hv
 obtain ⟨v0,rfl⟩:=Wl hl
 obtain rfl:=hv 0 _ _ rfl rfl
 clear hl hv
 refine Ze ?_
 (refine xL 2 Za ?_<;>refine Zi ?_)
 (refine xL 3 Zb (xL 4 (Sf underlying9) (xL 5 Yr (xL 2 Za ?_)))<;>refine Zc ?_)
 exact Zz results60 rfl rfl
theorem ZfF (l:List ByteArray) (n:Int):AF prog 15 [Yq l,pInt n] (· =ZM (Zpl l n)):=by
 refine AF.of_body 14 func15 rfl ntmps15 (Xa rfl) ?_
 intro w0 M0 vs hl hv
 obtain ⟨v0,v1,rfl⟩:=YI hl
 obtain rfl:=hv 1 _ _ rfl rfl
 clear hl hv
 refine Ze ?_
 (refine xL 4 Za ?_<;>refine Zi ?_)
 (refine xL 5 Zb (xL 6 (ZT Ziq) (xL 7 Zb (xL 8 PK (xL 9 Zb ?_))))<;>(refine bLd 9 (fun hb9=>?_) (fun hb9=>?_)<;>(first|refine kL 10 ?_|refine xL 10 Zb ?_))<;>(first|refine kL 11 ?_|(refine cS 11 (cA call59 (PS 60 [] (fun s=>decide (100<(s.size:Int))) l (call60) (fun s hs=>Zek s))) fun v11 h=>?_;cases h))<;>(first|refine kL 12 ?_|refine xL 12 Ya ?_)<;>refine xL 13 ZF (xL 4 Za ?_)<;>refine Zc ?_)<;>(
 refine Zz (results15) rfl ?_;unfold Zpl
 first|(rw [UQ hb9];rfl)|(rw [UR hb9];rfl))
theorem Znl {a:Nd} (ha:FitT a):∀t∈[a],FitT t:=fun t ht=>by rw [Xi.1 ht];exact ha
end Go.Proofs.YtgfabnhpllkebaaGreatDoor
namespace Go.En
open Go.RowKit Go.Cb Go.ChangeShapes Go.WideShapes Go.ChangeAt
set_option linter.all false
section
variable {P:Program} {t:TypeId}
end
end Go.En
namespace Go.Proofs.YtgfabnhpllkebaaGreatDoor
open Go.RowKit Go.Cb Go.En Go.ChangeShapes Go.WideShapes Go.ChangeAt Tryz
set_option linter.all false
set_option maxRecDepth 100000
theorem ZoC:Dec prog 9 1 (fun s:ByteArray=>[Yl s]) (fun s=>s.size≤140737488355328):=ZfS underlying9 kR
theorem Znm:Dec prog 27 1 (fun l=>[Yq l]) ZoZ:=
 ZlW id (Zhb underlying27 kR dC (Xa kR) ZoC) (fun _=>rfl) (fun l=>by show [PV.sl l.length (l.map Yl)]=_;rw [ZiM]) (fun _ h=>h)
theorem Zlq (x:Nd):PV.sl 1 (cN x)=Y0 [x]:=by unfold Y0;rw [Ra];simp
open Go.RowKit Go.Cb Go.En
theorem ZfG (a:Aut) (w:List Int) (h:AOk a) (hl:w.length≤1000000):AF prog 23 [ZN a,pInts w] (· =ZM (Wy a (RG a w))):=by
 refine AF.of_body 27 func23 rfl ntmps23 (Xa rfl) ?_
 intro w0 M0 vs hl hv
 obtain ⟨v0,v1,rfl⟩:=YI hl
 clear hl hv
 refine Ze ?_
 (refine ZB 2 5 fun h2=>?_<;>refine xL 4 Za ?_<;>refine Zi ?_)
 ((refine yL 7 (Zu 2 Zh) fun v7 h=>?_;cases h)<;>refine xL 8 (Zd 2 Z1) ?_<;>(refine yL 9 (Zk 2 Zy) fun v9 h=>?_;cases h)<;>(refine cO 10 (cA call70 (SB a a.start h h.st)) fun v10 ho10=>?_;refine Zs (En.freeze (l:=10) (t:=10) rfl rfl) fun _=>?_;rw [ZS _ _ _ rfl])<;>refine xL 5 Za ?_<;>refine Zi ?_)
 (refine xL 6 Za ?_<;>refine Zc ?_)
 refine ZD (ι:={q:Nat×Value//q.1≤w.length}) (fun k=>⟨[(1,_,_),(2,_,_),(4,_,_),(5,k.1.2,pInts (RG a (w.take k.1.1))),(6, .int .i64 k.1.1,pInt k.1.1)],[(2,_,_)]⟩) (fun k=>w.length-k.1.1) ⟨(0,v10),Xd _⟩ (fun a w H=>H.weaken ⟨rfl,rfl,rfl,rfl,rfl,trivial⟩ ⟨rfl,trivial⟩) ?_
 rintro ⟨⟨k,v⟩,hk⟩
 dsimp only
 dsimp only at hk
 have hrun:=Zf3 h (w.take k)
 refine Ze ?_
 (refine xL 11 Zb (xL 12 Zb (xL 13 (ZT Zp) (xL 14 ZP ?_)))<;>refine Zc ?_)
 refine cX ?_ ?_<;>intro hb14
 · first|exact bN hb14|(
 obtain ⟨c,hc⟩:=Zt (show k<w.length by omega);have e1:=Z7 (f:=pInt) hc;refine nav ?_;(refine ZZ (fun i=>([]:List Nat).elem i) [2] kR ?_<;>(refine yD 0 17 rfl (Zu 2 Zh) fun v17 h=>?_;cases h)<;>refine xD 1 18 rfl Zb ?_<;>refine xD 2 19 rfl Zb ?_<;>refine xE 3 20 rfl Zb ?_<;>refine xE 4 21 rfl (ZI Zp) ?_<;>(refine yE 5 22 rfl (Z9 Zg) fun v22 h=>?_;cases h)<;>(refine Zr 6 kR ?_)<;>(refine Zo rfl fun w9 M9 N9 DQ back=>?_)<;>(refine cO 23 (cA call71 (Eu a (RG a (w.take k)) c h hrun.1)) fun v23 ho23=>?_;refine Zs (En.freeze (l:=23) (t:=23) rfl rfl) fun _=>?_;rw [ZS _ _ _ rfl])<;>refine Zl (back _ (nrm ?_))<;>refine xE 7 5 rfl Za ?_<;>refine Yw kR (nav ?_)<;>try dsimp only)
 (refine Zv ?_<;>refine xL 15 Zb (xL 16 ZG (xL 6 Za ?_))<;>refine Zc ?_)
 rw [←ζx hc];refine Zm (
  ⟨(k+1,v23),Zf hc⟩
  ) (by dsimp only;omega) ⟨rfl,rfl,rfl,rfl,rfl,trivial⟩ ⟨rfl,trivial⟩)
 · first|exact bN hb14|(
 obtain rfl:k=w.length:=oM;rw [Vy] at hrun ⊢;refine Ze ?_;((refine yL 24 (Zu 2 Zh) fun v24 h=>?_;cases h)<;>refine xL 25 Zb ?_<;>(refine cS 26 (cA call72 (Ev a (RG a w))) fun v26 h=>?_;cases h)<;>refine xL 4 Za ?_<;>refine Zc ?_)
 exact Zz (results23) rfl rfl)
theorem T3:AggT prog 24 3=true:=by kernel_rfl
theorem CC:AggT prog 39 5=true:=by kernel_rfl
theorem Zit:ElT prog 22 24 3 48 (.agg #[(.int .i64 0),(.string ByteArray.empty),(.slice none 0 0)]):=⟨underlying22,by kernel_rfl,rfl,dC⟩
theorem ZaE:ElT prog 36 3 1 8 (.int .i64 0):=⟨underlying36,by kernel_rfl,rfl,dC⟩
theorem Zlr:NoAgg prog 9=true:=by kernel_rfl
theorem TB:SlT prog 27 9 1=true:=by kernel_rfl
theorem Ziu:ZeroT prog 39 (.agg #[(.int .i64 0),(.int .i64 0),(.slice none 0 0),(.slice none 0 0),(.slice none 0 0)]):=by unfold ZeroT;kernel_rfl
set_option maxHeartbeats 4000000 in
theorem ZbL (t : Nd) (w:List ByteArray) (hf:FitT t) (hfw:ZoZ w):AF prog 5 [pTr t,Yq w] (· =ZM true):=by
 have e0:pTr t= .agg [pInt t.op,Yl t.act,Y0 t.l]:=rfl
 have hV:=C7 t hf
 have hP:=Zea t hf w
 obtain ⟨s,e,hX⟩:∃s e,accTX t w=(s,e):=⟨_,_,rfl⟩
 rw [hX] at hP
 dsimp only at hP
 have hS:=ZfE [t] (show 1≤1000 by decide) (Znl hf)
 obtain ⟨L,p0,p1,p2,p3,p4,E,hO,hj⟩:=Zk8 t hf
 have r5:=hO.r5
 obtain ⟨o0,o1,o2,o3,o4⟩:=r5.o
 have hwl:=hfw.1
 rw [e0] at hV hP hj ⊢
 refine AF.of_body 110 func5 rfl ntmps5 (Xa rfl) ?_
 intro w0 M0 vs hl hv
 obtain ⟨v0,v1,rfl⟩:=YI hl
 clear hl hv
 refine Ze ?_
 (refine ZB 2 3 fun h2=>?_<;>refine xL 4 Za ?_<;>refine Zi ?_)
 ((refine cS 14 (cA call10 (CB)) fun v14 h=>?_;cases h)<;>refine xL (v:= .bool false) (p:= .val (.bool false)) 15 (Ya (b:=true)) ?_<;>refine xL 16 Zb ?_<;>(refine yL 17 (Zu 2 T3) fun v17 h=>?_;cases h)<;>(refine YB 18 Zit fun h18 ho18=>?_;refine Zs (En.freeze (l:=18) (t:=18) rfl rfl) fun _=>?_;refine Zs (Wx (t:=18) (p':=Y0 [t]) rfl (Eq.trans (show _=PV.sl 1 (cN t) from rfl) (Zlq t))) fun _=>?_)<;>(refine cS 19 (cA call11 (hS)) fun v19 h=>?_;cases h)<;>refine xL 20 Ya (xL 21 ZF (xL 22 Zb ?_))<;>(refine bL 22 (fun hb22=>?_) (fun hb22=>?_)<;>(first|refine kL 23 ?_|refine xL 23 Zb ?_))<;>(first|refine kL 24 ?_|refine xL 24 (ZT TB) ?_)<;>(first|refine kL 25 ?_|refine xL 25 Yr ?_)<;>(first|refine kL 26 ?_|refine xL 26 Zb ?_)<;>(first|refine kL 27 ?_|(refine bLd 26 (fun hb26=>?_) (fun hb26=>?_)<;>(first|refine kL 27 ?_|refine xL 27 Zb ?_)))<;>(first|refine kL 28 ?_|refine xL 28 (ZT TB) ?_)<;>(first|refine kL 29 ?_|refine xL 29 PK ?_)<;>(first|refine kL 30 ?_|refine xL 30 ZF ?_)<;>refine xL 31 ZF (xL 32 Zb ?_)<;>(first|refine kL 33 ?_|refine xL 33 Zb ?_|(refine bLd 32 (fun hb32=>?_) (fun hb32=>?_)<;>(first|refine kL 33 ?_|refine xL 33 Zb ?_)))<;>(first|refine kL 34 ?_|(refine cS 34 (cA call15 (ZfF w 205)) fun v34 h=>?_;cases h))<;>(first|refine kL 35 ?_|refine xL 35 Ya ?_)<;>refine xL 36 ZF ?_<;>refine Zc ?_)<;>(
 refine cX ?_ ?_<;>intro hb36
 · first|exact bN hb36|(
 refine Ze ?_;((refine cS 37 (cA call10 (CB)) fun v37 h=>?_;cases h)<;>refine xL 4 Za ?_<;>refine Zc ?_)
 exact Zz (results5) rfl rfl)
 · first | exact bN hb36|(
 refine Ze ?_;((refine yL 39 (Zu 2 T3) fun v39 h=>?_;cases h)<;>refine xL 40 Zb ?_<;>(refine cP 41 (cA (call19) hP) (fun va41 vb41 hva41 hvb41=>?_);cases hva41;cases hvb41)<;>refine xL 38 Zb (xL 42 Zj (xL 43 Zj (xL 5 Za (xL 6 Za ?_))))<;>refine Zi ?_)
 ((refine yL 45 (Zu 2 T3) fun v45 h=>?_;cases h)<;>(refine cS 46 (cA call20 (hV)) fun v46 h=>?_;cases h)<;>refine xL 47 Ya (xL 44 Za ?_)<;>refine Zc ?_)
 refine cX ?_ ?_<;>intro hb44
 · first|exact bN hb44|(
 (have h1:accTX t w=(false,1):=by unfold accTX;rw [US (by simpa using hb44)]);rw [hX] at h1
 cases h1;refine Ze ?_;(refine xL 48 Zb (xL 49 Ya (xL 50 Zb (xL 51 Zb (xL 52 RY (xL 53 ZF (xL 4 Za ?_))))))<;>refine Zc ?_)<;>(
 first|exact Zz (results5) rfl rfl|(exfalso;simp at hb50;done)))
 · first | exact bN hb44|(
 (have hv:Ke t=true:=by simpa using hb44);refine Ze ?_;(refine xL 55 Zb (xL 56 (ZT TB) (xL 57 Yr (xL 54 Za ?_)))<;>refine Zc ?_)
 refine cX ?_ ?_<;>intro hb54
 · first|exact bN hb54|(
 (have h1:accTX t w=(false,5):=by unfold accTX;rw [UT hv,UT oM]);rw [hX] at h1
 cases h1;refine Ze ?_;(refine xL 58 Zb (xL 59 Ya (xL 60 Zb (xL 61 Zb (xL 62 RY (xL 63 ZF (xL 4 Za ?_))))))<;>refine Zc ?_)<;>(
 first|exact Zz (results5) rfl rfl|(exfalso;simp at hb60;done)))
 · first | exact bN hb54|(
 have hl:¬200<w.length:=oM;refine Ze ?_;((refine yL 65 (Zu 2 T3) fun v65 h=>?_;cases h)<;>(refine Zg7 66 (cA (call21) hj) (fun va66 vb66 vc66 hva66 hvb66 hvc66=>?_) (hsh:=r5.t3 L E);cases hvc66)<;>refine xL 64 Zb (xL 67 Zj (xL 68 Zj (xL 69 Zj ?_)))<;>refine Zw [(.int .i64 0),(.int .i64 0),(.slice none 0 0),(.slice none 0 0),(.slice none 0 0)] 5 7 Ziu fun h7=>?_<;>refine ZE 7 CC ?_<;>refine xL 8 Za (xL 9 Za ?_)<;>refine Zi ?_)
 (refine xL 70 Zb (xL 71 Yv ?_)<;>refine Zc ?_)
 refine cX ?_ ?_<;>intro hb71
 · first|exact bN hb71|(
 have h1:=Zd9 hv hl hO hb71;rw [hX] at h1
 cases h1;refine Ze ?_;(refine xL 72 Zb (xL 73 Ya (xL 74 Zb (xL 75 Zb (xL 76 Zb (xL 77 RY (xL 78 ZF (xL 4 Za ?_)))))))<;>refine Zc ?_)<;>(
 first|exact Zz (results5) rfl rfl|(exfalso;simp at hb74;done)))
 · first | exact bN hb71|(
 obtain ⟨A,h1,h2,rfl,rfl,rfl,rfl,rfl,rfl⟩:=hO.yes (by simpa using hb71);have hY:=Zay (w:=w) hv hl h1 h2;obtain ⟨mA,sA,mL⟩:=ZgA h1 h2;refine Ze ?_;(refine xL 10 Za ?_<;>refine Zi ?_)
 (refine xL 79 Zb (xL 80 (ZT TB) (xL 81 Zb ?_))<;>refine Zc ?_)
 refine Zq (KB 200 3 1 rfl) fun _=>?_;refine ZD (ι:={q:Nat×Value//q.1≤w.length∧q.2.oneCell'=true∧((w.take q.1).any fun s=>decide (YO L s<0))=false}) (fun k=>⟨[(1,_,_),(2,_,_),(4,_,_),(5,_,_),(6,_,_),(7,_,_),(8,_,_),(79,_,_),(80,_,_),(10,k.1.2, .val k.1.2),(81, .int .i64 k.1.1,pInt k.1.1)],[(2,_,_),(7,_,_),(200,k.1.2, .own 3 1 (Y5 L (w.take k.1.1)).length ((Y5 L (w.take k.1.1)).map pInt))]⟩) (fun k=>w.length-k.1.1) ⟨(0, .slice none 0 0),Xd _,rfl,rfl⟩ (fun a w H=>H.weaken ⟨rfl,rfl,rfl,rfl,rfl,rfl,rfl,rfl,rfl,rfl,rfl,trivial⟩ ⟨rfl,rfl,rfl,trivial⟩) ?_;rintro ⟨⟨i,hv9⟩,hi,ho,hany⟩;dsimp only;dsimp only at hi ho hany;(have hpl:(Y5 L (w.take i)).length≤w.length:=by rw [S5,Xo];omega);refine Ze ?_;(refine xL 82 ZP ?_<;>refine Zc ?_)
 refine cX ?_ ?_<;>intro hb82
 · first |exact bN hb82|(
 obtain ⟨z,hz⟩:=Zt (show i<w.length by omega);have e1:=Z7 (f:=Yl) hz;refine Ze ?_;(refine xL 83 (ZI TB) ?_<;>(refine yL 84 (Z9 Zlr) fun v84 h=>?_;cases h)<;>refine xL 12 Za ?_<;>refine Zi ?_)
 (refine xL 85 Zb (xL 86 Zb ?_)<;>(refine cS 87 (cA call22 (Zb0 L z)) fun v87 h=>?_;cases h)<;>refine xL 13 Za ?_<;>refine Zi ?_)
 (refine xL 88 Zb (xL 89 ZP ?_)<;>refine Zc ?_)
 refine cX ?_ ?_<;>intro hb89
 · first|exact bN hb89|(
 have hneg:YO L z<0:=hb89;have h3:(w.any fun s=>decide (YO L s<0))=true:=VA.2 ⟨z,Xc hz,UQ hneg⟩;rw [UT h3,hX] at hY
 cases hY;refine Ze ?_;(refine xL 90 Zb (xL 91 Ya (xL 92 Zb (xL 93 Zb (xL 94 RY (xL 95 ZF (xL 4 Za ?_))))))<;>refine Zc ?_)<;>(
 first|exact Zz (results5) rfl rfl|(exfalso;simp at hb92;done)))
 · first|exact bN hb89|(
 have hnn:¬YO L z<0:=hb89;refine Ze ?_;(refine xL 96 Zb (xL 97 Zb ?_)<;>refine ZO (kk:=1) 98 ZaE fun h98 ho98=>?_<;>(refine ZW 200 98 99 ZaE fun h99 ho99=>?_;refine Zs (ZC (l:=99) 200 rfl rfl) fun _=>?_;refine Zs (ZH (l:=200) (p':= .own 3 1 (Y5 L (w.take (i+1))).length ((Y5 L (w.take (i+1))).map pInt)) rfl (by rw [OB L hz];exact Kn _ _ _)) fun _=>?_)<;>refine xL 10 Za ?_<;>refine Zi ?_)
 (refine xL 100 ZG (xL 81 Zb ?_)<;>refine Zc ?_)
 refine Zm (
  ⟨(i+1,h99),Zf hz,ho99,by rw [Ow hz,hany,UR hnn];rfl⟩
  ) (by dsimp only;omega) ⟨rfl,rfl,rfl,rfl,rfl,rfl,rfl,rfl,rfl,rfl,rfl,trivial⟩ ⟨rfl,rfl,rfl,trivial⟩))
 · first|exact bN hb82|(
 have hall:w.take i=w:=Xj oM;rw [hall] at hany;rw [US (by rw [hany];decide),hX] at hY
 cases hY;refine Zq (En.freeze (l:=200) (t:=10) rfl rfl) fun _=>?_;rw [ZS _ _ _ rfl];(have hT:=(ZfG A (Y5 L (w.take i)) mA.aok oM).mono (R':=(· =ZM (GN A (Y5 L w)))) fun p hp=>by rw [hp,hall];rfl);refine Ze ?_;(refine xL 101 Zb ?_<;>(refine yL 102 (Zu 7 CC) fun v102 h=>?_;cases h)<;>refine xL 103 Zb ?_<;>(refine cS 104 (cA call23 (hT)) fun v104 h=>?_;cases h)<;>refine xL 105 (ZiG underlying4) (xL 106 Zb ?_)<;>(refine bLd 106 (fun hb106=>?_) (fun hb106=>?_)<;>(first|refine kL 107 ?_|refine xL 107 Zb ?_))<;>(first|refine kL 108 ?_|refine xL 108 RY ?_)<;>refine xL 109 ZF (xL 4 Za ?_)<;>refine Zc ?_)<;>(
 first|exact Zz (results5) rfl rfl|(exfalso;simp at hb106;done))))))))
end Go.Proofs.YtgfabnhpllkebaaGreatDoor
