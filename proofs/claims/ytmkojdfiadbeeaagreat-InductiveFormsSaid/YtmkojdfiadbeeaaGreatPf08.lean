/-
  Walks of functions and plain laws of the chapter, as the claim needs them.
-/
import Derived.Lib.Join
import Derived.Test.YtmkojdfiadbeeaaGreatPf07
import Derived.Test.YtmkojdfiadbeeaaGreatPf01
import Derived.Test.YtmkojdfiadbeeaaGreatMShelf
import Derived.Test.YtmkojdfiadbeeaaGreatPf03
import Derived.Test.YtmkojdfiadbeeaaGreatPf02
import Derived.Test.YtmkojdfiadbeeaaGreatPf06
import Derived.Test.YtmkojdfiadbeeaaGreatPf05
import Derived.Test.YtmkojdfiadbeeaaGreatMShelfC
import Derived.Test.YtmkojdfiadbeeaaGreatPf04
import Derived.Test.YtmkojdfiadbeeaaGreatMShelfD
namespace Go.Proofs.YtmkojdfiadbeeaaGreat
open Go.RowKit Go.Cb Tryz
set_option maxHeartbeats 400000 in
theorem Zeg (s:ByteArray) (w:World):Calls prog 198 #[.string s] w fun e w'=>e= .returned (.bool false)∧w=w':=by
 go_enter func198,ntmps198
 go_wp2
 go_ret
 exact ⟨sM,rfl⟩
set_option maxHeartbeats 400000 in
theorem Zcz (a b:ByteArray) (w:World):Calls prog 137 #[.string a, .string b] w fun e w'=>e= .returned (.int .i64 (ZS a b))∧w=w':=by
 cases h1:Op.bytesLess a.toList b.toList<;>cases h2:(a.toList==b.toList)
 all_goals
  have H1:=Lib.hid h1;have H2:=Lib.hid h2;go_enter func137,ntmps137
  go_wp2_with (go_at_call 198;refine (Zeg _ _).mono ?_;rintro e w' ⟨rfl,rfl⟩)
  go_ret
  refine ⟨TZ ?_,rfl⟩;simp [ZS,strLt,Ka,H1.out,H2.out]
set_option maxHeartbeats 1000000 in
theorem E9 (l m:List ByteArray) (v u:Value) (w:World) {M:Mut} (hl:Strs M w v l) (hm:Strs M w u m):
 Calls prog 99 #[v,u] w fun e w'=>e= .returned (.int .i64 (cmpStrs l m))∧w=w':=by
 have hlen:=hl.len
 have hmen:=hm.len
 rcases hl.cases with ⟨a1,c1,rfl,rfl,hc1⟩|⟨b1,off1,c1,rfl,hlc1,hc1,h01,hE1⟩
 · obtain ⟨a2,c2,rfl,hm1,hm2,hm3⟩:=hm;clear hm3 hl
   cases m with
   | nil=>
     go_enter func99,ntmps99
     go_wp2_with fail
     go_rounds 1
     go_ret
     exact ⟨rfl,rfl⟩
   | cons y m=>
     simp only [Xg] at*;go_enter func99,ntmps99
     go_wp2_with fail
     go_rounds 1
     go_ret
     exact ⟨rfl,rfl⟩
 · have HE1 :=Lib.hid hE1;clear hE1 hl;rcases hm.cases with ⟨a2,c2,rfl,rfl,hc2⟩|⟨b2,off2,c2,rfl,hlc2,hc2,h02,hE2⟩
   · clear hm;obtain ⟨x,hx⟩:=Zm h01;(have hcell:w.cell? ⟨b1,off1,none⟩=some (.string x):=by have:=(HE1.out 0 x hx).1.1;simpa using this);have HX:=Lib.hid hx;clear hx;go_enter func99,ntmps99
     go_wp2_with fail
     go_rounds 1
     go_ret
     refine ⟨TZ ?_,rfl⟩
     cases l with
     |nil=>simp at h01
     |cons y l=>simp [cmpStrs]
   · have HE2 :=Lib.hid hE2;clear hE2 hm;go_enter func99,ntmps99
     go_wp2_with fail
     go_loop [11] (fun i=>∃k:Nat,k≤l.length∧k≤m.length∧i= .int .i64 k∧Hid (cmpStrs l m=cmpStrs (l.drop k) (m.drop k))) (fun i=>l.length-(intOf i).toNat)
     case atStart=>exact ⟨0,oM,oM,rfl,rfl⟩
     case round=>
      obtain ⟨k,hk,hk2,rfl,hpre⟩:=hrel;by_cases hlt:k<l.length
      · obtain ⟨x,hx⟩:=Zm hlt;have hcx:=(HE1.out k x hx).1.1;rw [XO] at hcx;have HX:=Lib.hid hx;clear hx;by_cases hlt2:k<m.length
        · obtain ⟨y,hy⟩:=Zm hlt2;have hcy:=(HE2.out k y hy).1.1;rw [XO] at hcy;have HY:=Lib.hid hy;clear hy;by_cases h0:ZS x y=0
          · have H0:=Lib.hid h0;clear h0;go_wp2_with (go_at_call 137;refine (Zcz _ _ _).mono ?_;rintro e w' ⟨rfl,rfl⟩;rw [H0.out])
            go_round
            case rel=>
             refine ⟨k+1,oM,oM,by go_num,?_⟩;show cmpStrs l m=_;rw [hpre.out,Ws HX.out,Ws HY.out,cmpStrs,UB H0.out]
            case measure=>simp [intOf];omega
          · (have hb:(ZS x y !=0)=true:=by simpa using h0);have H0:=Lib.hid h0;clear h0;go_wp2_with (go_at_call 137;refine (Zcz _ _ _).mono ?_;rintro e w' ⟨rfl,rfl⟩)
            go_ret
            refine ⟨TZ ?_,rfl⟩;rw [hpre.out,Ws HX.out,Ws HY.out,cmpStrs,UA H0.out]
        · go_wp2_with fail
          go_ret
          refine ⟨TZ ?_,rfl⟩;rw [hpre.out,Ws HX.out,XH (by omega:m.length≤k),cmpStrs]
      · by_cases hlt2:k<m.length
        · obtain ⟨y,hy⟩:=Zm hlt2;have HY:=Lib.hid hy;clear hy;go_wp2_with fail
          go_ret
          refine ⟨TZ ?_,rfl⟩;rw [hpre.out,Ws HY.out,XH (by omega:l.length≤k),cmpStrs]
        · go_wp2_with fail
          go_ret
          refine ⟨TZ ?_,rfl⟩;rw [hpre.out,XH (by omega:m.length≤k),XH (by omega:l.length≤k),cmpStrs]
set_option maxHeartbeats 400000 in
theorem Hi (l m:List ByteArray) (v u:Value) (w:World) {M:Mut} (hl:Strs M w v l) (hm:Strs M w u m):
 Calls prog 42 #[v,u] w fun e w'=>e= .returned (.int .i64 (cmpStrs l m))∧w=w':=by
 have HP:=Lib.hid (E9 l m v u w hl hm);clear hl hm
 go_enter func42,ntmps42
 go_wp2_with (go_at_call 99;refine HP.out.mono ?_;rintro e w' ⟨rfl,rfl⟩)
 go_ret
 exact ⟨rfl,rfl⟩
open Go.RowKit Go.Cb Go.En
set_option linter.all false
set_option maxRecDepth 100000
theorem ZjT {α:Type} {k:Nat} {E:Elt α} {f:α→List PV} (hf:∀x,(f x).length=k) {M:BS} {w:World} {v:Value} {l:List α} (h:Shr M w v (.sl l.length (l.flatMap f))) (hl:l.length≤140737488355328)
 (hE:∀(x:α) (b o:Nat) (vs:Nat→Value),x∈l→(∀j,j<k→w.cell? ⟨b,o+j,none⟩=some (vs j)∧¬M b)→(∀(j:Nat) (p:PV),(f x)[j]? =some p→Shr M w (vs j) p)→E M w b o x):SlR k E M w v l:=by
 generalize hn:l.length=n at h
 generalize hcs:l.flatMap f=cs at h
 cases h with
 | emp a c hc ha=>
   have:l=[]:=Xw hn;subst this;exact ⟨a,c,rfl,Xn _,by unfold maxLen at hc;exact hc,sM,ha,fun i x hx=>by simp at hx⟩
 | sl b off n c cs vs hnc hc hcell hT=>
   subst hn hcs;refine ⟨some ⟨b,off,none⟩,c,rfl,hnc,by unfold maxLen at hc;exact hc,hl,(by intro h;cases h),fun i x hx=>⟨b,off,rfl,?_⟩⟩;have hfit:=YT hf hx;refine hE x b (off+i*k) (fun j=>vs (i*k+j)) (Xb hx) (fun j hj=>?_) (fun j p hp=>?_)
   · have:=hcell (i*k+j) oM;rw [Vf];exact this
   · (have hj:j<k:=by rw [←hf x];exact Zj hp);exact hT _ p (by rw [WU hf hx hj];exact hp)
theorem ζH {M:BS} {w:World} {v:Value} {l:List ByteArray} (h:Shr M w v (ZT l)) (hf:Hc l):Strs M w v l:=by
 unfold ZT at h
 rw [CY] at h
 refine ZjT (k:=1) (f:=fun x=>[ZD x]) (fun _=>rfl) h hf.1 fun x b o vs hx hc hT=>?_
 have h0:vs 0= .string x:=(hT 0 _ rfl).vOf
 have:=hc 0 dC
 rw [h0] at this
 exact ⟨this,hf.2 x hx⟩
theorem E' {w w':World} {M:BS} {v:Value} {e:Ending} (h1:e= .returned v) (h2:Ext w w'):Gn ⟨w,M,fun _=>False,0,False,[]⟩ (· = .val v) e w':=⟨v,_,fun _=>False,h1,rfl,h2, .shr (.val _) (fun _ h=>h),fun _ h=>h.elim,fun h=>h.elim⟩
theorem ZcA {M:BS} {w:World} {B e n:Nat} {v:Value} {xs:List Value} (h:w.ownsRow B e 1 v n xs) (hM:∀b,M b→b<B):Shr M w v (.sl n (xs.map PV.val)):=by
 rcases h.2 with ⟨rfl,rfl⟩|⟨g,cap,cur,rfl,hg,hh,h4,h5,h6,h7⟩
 · have:xs=[]:=Xw (by rw [h.1]);subst this;exact .emp none 0 (by unfold maxLen;omega) (fun _=>rfl)
 · refine .sl g 0 n cap _ (fun i=>(xs[i]?).getD undef) h4 h5 (fun i hi=>?_) (fun i p hp=>?_)
   · rw [Xd] at hi;obtain ⟨x,hx⟩:=Yf hi;refine ⟨?_,fun hm=>by have:=hM g hm;omega⟩;rw [Xx,h.cellAt i (by rw [←h.1];exact hi),hx];rfl
   · rw [Xm,XN] at hp;obtain ⟨x,hx,rfl⟩:=hp;show Shr M w ((xs[i]?).getD undef) (.val x);rw [hx];exact .val _
theorem Pk {w w':World} {M:BS} {v:Value} {p:PV} {e:Ending} (h1:e= .returned v) (h2:Ext w w') (h3:Shr M w' v p):Gn ⟨w,M,fun _=>False,0,False,[]⟩ (· =p) e w':=
 ⟨v,p,fun _=>False,h1,rfl,h2, .shr (h3.anti fun b _ hb=>hb.elim id False.elim) (fun _ h=>h),fun _ h=>h.elim,fun h=>h.elim⟩
theorem shr_cells {M:BS} {w:World} {b off n c:Nat} {l:List ByteArray} (h:Shr M w (.slice (some ⟨b,off,none⟩) n c) (ZT l)):∀(j:Nat) (s:ByteArray),l[j]? =some s→w.cell? ⟨b,off+j,none⟩=some (.string s):=fun j s hs=>by
 unfold ZT at h
 generalize hn:l.length=m at h
 generalize hcs:l.map ZD=cs at h
 cases h with
 | emp=>
   have:l=[]:=Xw hn;subst this;simp at hs
 | sl _ _ _ _ _ vs hn hc hcell hT=>
   subst hcs;have h1:=(hcell j (by rw [Xd];exact Zj hs)).1;have h2:vs j= .string s:=(hT j (ZD s) (by rw [Xm,hs];rfl)).vOf;rw [h1,h2]
theorem Zio (l:List ByteArray) (hl:l.length≤1000000):AF prog 68 [ZT l] (· =ZT l):=fun M w vs hM hlen hv=>by
 obtain ⟨v,rfl⟩:=YG hlen
 have hS:=hv 0 v _ rfl rfl
 have hS':=hS
 unfold ZT at hS'
 generalize hn:l.length=n at hS'
 generalize hcs:l.map ZD=cs at hS'
 cases hS' with
 | emp a c hc ha=>
   have:l=[]:=Xw hn;subst this
   cases a with
   |none=>exact (Tryz.slices_Clone_string_nil 0 c w).mono fun e w' ⟨h1,h2⟩=>Pk h1 (h2▸Ext.rfl' _) (.emp none 0 (by unfold maxLen;omega) (fun _=>rfl))
   |some a=>exact (Tryz.slices_Clone_string_zero a c w).mono fun e w' ⟨v',h1,h2,_,h3⟩=>Pk h1 h3 (ZcA h2 (fun b hb=>(hM.m b hb).1))
 | sl b off n c cs vs' hnc hc hcell hT=>
   subst hn hcs;have hcl:=shr_cells hS;refine (Tryz.slices_Clone_string b off l.length c l w (Xc _) oM (fun j hj=>?_)).mono fun e w' ⟨v',h1,h2,_,h3⟩=>Pk h1 h3 ?_
   · obtain ⟨s,hs⟩:=Yf hj;rw [hcl j s hs,List.getD,hs];rfl
   · have:=ZcA h2 (fun b hb=>(hM.m b hb).1);rw [XI,Xt] at this;exact this
def Gr (l:List ByteArray):ByteArray:=⟨(Lib.join (l.map (·.data.toList)) [32]).toArray⟩
theorem ZjU (l:List ByteArray) (hl:l.length≤1000000) (hj:(Lib.join (l.map (·.data.toList)) [32]).length≤140737488355328):AF prog 67 [ZT l,ZD ⟨#[32]⟩] (· =ZD (Gr l)):=fun M w vs hM hlen hv=>by
 obtain ⟨v,u,rfl⟩:=W7 hlen
 have hu:u= .string ⟨#[32]⟩:=(hv 1 u _ rfl rfl).vOf
 subst hu
 have hS:=hv 0 v _ rfl rfl
 have hS':=hS
 unfold ZT at hS'
 generalize hn:l.length=n at hS'
 generalize hcs:l.map ZD=cs at hS'
 cases hS' with
 | emp a c hc ha=>
   have:l=[]:=Xw hn;subst this;exact (Tryz.strings_Join_none a c ⟨#[32]⟩ w).mono fun e w' ⟨h1,h2⟩=>E' (v:= .string (Gr [])) (by rw [h1];rfl) (h2▸Ext.rfl' _)
 | sl b off n c cs vs' hnc hc hcell hT=>
   subst hn hcs;have hcl:=shr_cells hS
   cases hl0:l with
   | nil=>
     subst hl0;exact (Tryz.strings_Join_none (some ⟨b,off,none⟩) c ⟨#[32]⟩ w).mono fun e w' ⟨h1,h2⟩=>E' (v:= .string (Gr [])) (by rw [h1];rfl) (h2▸Ext.rfl' _)
   | cons s0 l0=>
     rw [←hl0];have hb:b<w.heap.size:=World.block_lt_of_cell? _ _ (hcl 0 s0 (by rw [hl0];rfl));exact (Tryz.strings_Join b off c l ⟨#[32]⟩ w hcl hb oM hnc hj).mono fun e w' ⟨h1,h2⟩=>E' (v:= .string (Gr l)) h1 h2
theorem ζI:FldT prog 28 1 1=true:=by kernel_rfl
theorem Zgz:NoAgg prog 3=true:=by kernel_rfl
theorem Zeh (x:Var):AF prog 69 [.agg (Wn x)] (· =ZB (decide (1048576<x.count))):=by
 refine AF.of_body 6 func69 rfl ntmps69 (Xa rfl) ?_
 intro w0 M0 vs hl hv
 obtain ⟨v0,rfl⟩:=YG hl
 clear hl hv
 refine Zd ?_
 (refine Yi 1 2 fun h1=>?_<;>refine xL 2 Zb ?_<;>refine Zi ?_)
 (refine xL 3 (Zn 1 ζI) ?_<;>(refine yL 4 (Zr 1 Zgz) fun v4 h=>?_;cases h)<;>refine xL 5 YV (xL 2 Zb ?_)<;>refine Zc ?_)
 exact Zl (results69) rfl rfl
theorem ζJ (W:World) (o1 o2:Obj):(W.alloc o1).alloc o2=Sort.grow (W.drewN 0) #[o1,o2]:=by
 have:(W.heap.push o1).push o2=W.heap++ #[o1,o2]:=by
  apply Array.ext';simp
 show ({W with heap:=(W.heap.push o1).push o2}:World)={W with heap:=W.heap++ #[o1,o2],drawn:=W.drawn+0}
 rw [this]
 rfl
theorem Zei (x y:Var) (hx:Hc x.acts) (hy:Hc y.acts) (M:BS) (W:World) (u v:Value) (hu:Shr M W u (.agg (Wn x))) (hv:Shr M W v (.agg (Wn y))):
 Calls prog 71 #[u,v] W fun e w'=>e= .returned (.int .i64 (cmpStrs x.acts y.acts))∧∃q os',w'=Sort.grow (W.drewN q) os':=by
 unfold Wn at hu hv
 generalize hps:[ZT x.acts,Zf x.count]=ps at hu
 generalize hqs:[ZT y.acts,Zf y.count]=qs at hv
 cases hu with
 | agg us ps hl hT=>
   cases hv with
   | agg vs qs hl' hT'=>
     subst hps hqs;obtain ⟨a1,a2,rfl⟩:=W7 hl;obtain ⟨b1,b2,rfl⟩:=W7 hl';have e1:a2= .int .i64 x.count:=(hT 1 a2 _ rfl rfl).vOf;have e2:b2= .int .i64 y.count:=(hT' 1 b2 _ rfl rfl).vOf;subst e1 e2;have s1:=ζH (hT 0 a1 _ rfl rfl) hx;have s2:=ζH (hT' 0 b1 _ rfl rfl) hy;clear hT hT' hl hl';obtain ⟨p1,c1,rfl,_⟩:=id s1;obtain ⟨p2,c2,rfl,_⟩:=id s2;have HC:=Lib.hid (Hi x.acts y.acts _ _ ((W.alloc (.cells #[.slice p1 x.acts.length c1, .int .i64 x.count] 28)).alloc (.cells #[.slice p2 y.acts.length c2, .int .i64 y.count] 28)) (s1.up ((Ext.alloc _ _).to_alloc _)) (s2.up ((Ext.alloc _ _).to_alloc _)));clear s1 s2;go_enter func71,ntmps71
     go_wp2_with (go_at_call 42;refine HC.out.mono ?_;rintro e w' ⟨rfl,rfl⟩)
     go_ret
     refine ⟨rfl,0,#[.cells #[.slice p1 x.acts.length c1, .int .i64 x.count] 28, .cells #[.slice p2 y.acts.length c2, .int .i64 y.count] 28],?_⟩;exact ζJ _ _ _
theorem ZcB:AggT prog 28 2=true:=by kernel_rfl
theorem Zej:ZbV prog 70 71 2:=fun enc hk h1 cf hO blk cap d w hcmp hH hblk hsz=>
 AnyQ.slices_SortFunc Tryz.sortVarL 2 (fun w=>AggT.run ZcB w) (fun w=>AggT.size ZcB w) enc hk h1 cf hO 71 #[] blk 0 cap d w (call71) hcmp hH hblk hsz
theorem Ca (p:Option Addr) (cap:Nat) (fv:Value) (w:World):Calls prog 70 #[.slice p 0 cap,fv] w fun e w'=>e= .returned (.tuple #[])∧w'=w:=
 AnyF.slices_SortFunc_none Tryz.sortVarL p cap fv w
end Go.Proofs.YtmkojdfiadbeeaaGreat
namespace Go.Cb
open Go.En
set_option linter.all false
theorem DD (x y:List UInt8) (l:List (List UInt8)):[32].intercalate (x::y::l)=x++32::[32].intercalate (y::l):=by
 simp [List.intercalate,List.intersperse]
theorem SN (x:List UInt8):([32]:List UInt8).intercalate [x]=x:=by simp [List.intercalate]
theorem ZcC:∀(x y a b:List UInt8),32∉x→32∉y→x++32::a=y++32::b→x=y∧a=b
 |[],[],a,b,_,_,h=>by simp at h;exact ⟨rfl,h⟩
 |[],c::y,a,b,_,h2,h=>by simp at h;exact UC (by simp [h.1]) h2
 |c::x,[],a,b,h1,_,h=>by simp at h;exact UC (by simp [h.1]) h1
 | c::x,d::y,a,b,h1,h2,h=>by
   simp at h h1 h2;obtain ⟨e1,e2⟩:=ZcC x y a b h1.2 h2.2 h.2;exact ⟨by rw [h.1,e1],e2⟩
theorem ZgA:∀(l m:List (List UInt8)),(∀x∈l,x≠[]∧32∉x)→(∀x∈m,x≠[]∧32∉x)→([32]:List UInt8).intercalate l=[32].intercalate m→l=m
 |[],[],_,_,_=>rfl
 |[],[y],_,h2,h=>by rw [SN] at h;exact UC h.symm (h2 y sM).1
 |[],y::z::m,_,h2,h=>by rw [DD] at h;simp [List.intercalate] at h
 |[x],[],h1,_,h=>by rw [SN] at h;exact UC h (h1 x sM).1
 |x::z::l,[],_,_,h=>by rw [DD] at h;simp [List.intercalate] at h
 |[x],[y],_,_,h=>by rw [SN,SN] at h;rw [h]
 | [x],y::z::m,h1,h2,h=>by
   rw [SN,DD] at h;exact UC (by rw [h];simp) (h1 x sM).2
 | x::z::l,[y],h1,h2,h=>by
   rw [SN,DD] at h;exact UC (by rw [←h];simp) (h2 y sM).2
 | x::x'::l,y::y'::m,h1,h2,h=>by
   rw [DD,DD] at h;obtain ⟨e1,e2⟩:=ZcC _ _ _ _ (h1 x sM).2 (h2 y sM).2 h;rw [e1,ZgA (x'::l) (y'::m) (fun z hz=>h1 z (by simp at hz ⊢;exact .inr hz)) (fun z hz=>h2 z (by simp at hz ⊢;exact .inr hz)) e2]
theorem SO {s:ByteArray} (h:isName s=true):s.data.toList≠[]∧(32:UInt8)∉s.data.toList∧s.size≤40:=by
 unfold isName at h
 simp only [Xe,Ux,Xj] at h
 obtain ⟨⟨⟨h1,h2⟩,h3⟩,h4⟩:=h
 refine ⟨fun e=>?_,fun e=>?_,h2⟩
 · have:s.size=0:=by
    show s.data.size=0;rw [←XU,e];rfl
   omega
 · have:=h4 32 e;revert this;decide
def WOk (w:List ByteArray):Prop:=w.length≤200∧∀s∈w,isName s=true
theorem ZgB {l m:List ByteArray} (h1:WOk l) (h2:WOk m) (h:Lib.join (l.map (·.data.toList)) [32]=Lib.join (m.map (·.data.toList)) [32]):l=m:=by
 have key:∀{l:List ByteArray},WOk l→∀x∈l.map (·.data.toList),x≠[]∧(32:UInt8)∉x:=fun h x hx=>by
  obtain ⟨s,hs,rfl⟩:=Xr.1 hx;have:=SO (h.2 s hs);exact ⟨this.1,this.2.1⟩
 have:=ZgA _ _ (key h1) (key h2) h
 have inj:∀{l m:List ByteArray},l.map (·.data.toList)=m.map (·.data.toList)→l=m:=by
  intro l;induction l with
  |nil=>intro m h;cases m with|nil=>rfl|cons=>simp at h
  | cons a l ih=>
    intro m h
    cases m with
    |nil=>simp at h
    | cons b m=>
      simp only [Xk,List.cons.injEq] at h;rw [ih h.2,WideShapes.bytes_inj h.1]
 exact inj this
theorem ZgC:∀(l:List (List UInt8)) (b:Nat),(∀x∈l,x.length≤b)→(([32]:List UInt8).intercalate l).length≤l.length*(b+1)
 |[],b,_=>by simp [List.intercalate]
 |[x],b,h=>by rw [SN];have:=h x sM;simp;omega
 | x::y::l,b,h=>by
   rw [DD];have h1:=ZgC (y::l) b (fun z hz=>h z (by simp at hz ⊢;exact .inr hz));have h2:=h x sM;simp only [Xf,Xg] at h1 ⊢;have:(l.length+1+1)*(b+1)=(l.length+1)*(b+1)+(b+1):=by rw [XW (l.length+1) 1];omega
   omega
theorem ZgD {l:List ByteArray} (h:WOk l):(Lib.join (l.map (·.data.toList)) [32]).length≤140737488355328:=by
 have:=ZgC (l.map (·.data.toList)) 40 (fun x hx=>by
  obtain ⟨s,hs,rfl⟩:=Xr.1 hx;rw [XU];exact (SO (h.2 s hs)).2.2)
 rw [Xd] at this
 have h2:=h.1
 unfold Lib.join
 omega
def WIn (Q:ByteArray→Prop) (n:Nat) (ps:List Piece):Prop:=∀p∈ps,p.word.length≤n∧∀s∈p.word,Q s
theorem WIn.mono {Q:ByteArray→Prop} {n m:Nat} {ps:List Piece} (h:WIn Q n ps) (hn:n≤m):WIn Q m ps:=fun p hp=>⟨XG (h p hp).1 hn,(h p hp).2⟩
theorem WIn.set {Q:ByteArray→Prop} {n i:Nat} {ps:List Piece} {q:Piece} {s:ByteArray} (h:WIn Q n ps) (hq:ps[i]? =some q) (hs:Q s):WIn Q (n+1) (ps.set i ⟨q.part,q.word++[s]⟩):=fun p hp=>by
 rcases Vq hp with h1|h1
 · exact h.mono (Vt _) p h1
 · have:=h q (Xb hq);rw [h1];refine ⟨by simp;exact this.1,fun t ht=>?_⟩;rcases Xz.1 ht with h2|h2
   · exact this.2 t h2
   · simp at h2;rw [h2];exact hs
theorem WIn.add {Q:ByteArray→Prop} {n i:Nat} {ps:List Piece} {s:ByteArray} (h:WIn Q n ps) (hs:Q s):WIn Q (n+1) (W6 ps i s):=by
 unfold W6
 split
 · rename_i q hq;exact h.set hq hs
 · exact h.mono (Vt _)
theorem WIn.step {Q:ByteArray→Prop} {n:Nat} {parts:List (List ByteArray)} {ps ps':List Piece} {s:ByteArray} (h:WIn Q n ps) (hs:Q s) (he:pieceStep parts ps s=some ps'):WIn Q (n+1) ps':=by
 have one:∀p:Piece,p∈[(⟨partOf parts s,[s]⟩:Piece)]→p.word.length≤n+1∧∀t∈p.word,Q t:=fun p hp=>by
  simp at hp;subst hp;exact ⟨sM,fun t ht=>by simp at ht;rw [ht];exact hs⟩
 unfold pieceStep at he
 split at he
 · cases he;exact one
 · rename_i q hq;split at he
   · cases he;exact h.set hq hs
   · split at he
     · cases he
     · cases he;intro p hp;rcases Xz.1 hp with h1|h1
       · exact h.mono (Vt _) p h1
       · exact one p h1
theorem PW {Q:ByteArray→Prop} {parts:List (List ByteArray)}:∀{ws:List ByteArray} {n:Nat} {ps ps':List Piece},WIn Q n ps→(∀s∈ws,Q s)→Kb parts ps ws=some ps'→WIn Q (n+ws.length) ps'
 |[],n,ps,ps',h,_,he=>by simp [Kb] at he;subst he;exact h
 | s ::l,n,ps,ps',h,hs,he=>by
   rw [Kb] at he
   cases hst:pieceStep parts ps s with
   |none=>rw [hst] at he;cases he
   | some ps1=>
     rw [hst] at he;have:=PW (h.step (hs s sM) hst) (fun x hx=>hs x (by simp [hx])) he;exact this.mono (by simp;omega)
theorem DF {Q:ByteArray→Prop} {kind:Int} {parts:List (List ByteArray)}:∀{ws:List ByteArray} {n:Nat} {first:Bool} {last:Int} {ps:List Piece} {r:List Piece×Int},WIn Q n ps→(∀s∈ws,Q s)→splitGo kind parts first last ps ws=some r→WIn Q (n+ws.length) r.1
 |[],n,_,_,ps,r,h,_,he=>by simp [splitGo] at he;subst he;exact h
 | s ::l,n,first,last,ps,r,h,hs,he=>by
   rw [splitGo] at he;split at he
   · cases he
   · have:=DF (h.add (hs s sM)) (fun x hx=>hs x (by simp [hx])) he;exact this.mono (by simp;omega)
theorem Za6 {Q:ByteArray→Prop} {c:Cut} {ws:List ByteArray} {ps:List Piece} (hs:∀s∈ws,Q s) (he:Y1 c ws=some ps):WIn Q ws.length ps:=by
 unfold Y1 at he
 split at he
 · unfold Lq at he;split at he
   · cases he;intro p hp;simp at hp;subst hp;exact ⟨sM,fun s h=>by simp at h⟩
   · cases hg:Kb c.parts [] ws with
     |none=>rw [hg] at he;cases he
     | some ps1=>
       rw [hg] at he;simp only [] at he;split at he
       · cases he;exact (PW (n:=0) (fun p hp=>by simp at hp) hs hg).mono oM
       · cases he
 · cases hg:splitGo c.kind c.parts true 0 (initPs c.parts.length) ws with
   |none=>rw [hg] at he;cases he
   | some r=>
     rw [hg] at he;have hin:=(DF (Q:=Q) (n:=0) (fun p hp=>by
      simp [initPs] at hp;obtain ⟨i,_,rfl⟩:=hp;exact ⟨sM,fun s h=>by simp at h⟩) hs hg).mono (m:=ws.length) oM
     obtain ⟨r1,r2⟩:=r;simp only [] at he;split at he
     · split at he
       · cases he
       · cases he;exact fun p hp=>hin p (List.mem_of_mem_drop (V8 hp))
     · cases he;exact hin
theorem ζK {c:Cut} {x:Var} {ps:List Piece} (hx:WT x=true) (he:Y1 c x.acts=some ps):∀p∈ps,WOk p.word:=fun p hp=>by
 simp only [WT,Xe,Ux,Xj] at hx
 have:=Za6 (Q:=fun s=>isName s=true) hx.1.1.2 he p hp
 exact ⟨XG this.1 hx.1.1.1,this.2⟩
def DG (n:Int) (R:List (List Var)) (p:Piece):List (List Var):=match R[p.part.toNat]? with
 |some r=>R.set p.part.toNat (bump r p.word n)
 |none=>R
theorem Zek {n:Int} {R:List (List Var)} {p:Piece} {r:List Var} (h:R[p.part.toNat]? =some r):DG n R p=R.set p.part.toNat (bump r p.word n):=by
 unfold DG;rw [h]
theorem ζL (n:Int) (R:List (List Var)) (p:Piece):(DG n R p).length=R.length:=by
 unfold DG;split<;>simp
def RelR (R S:List (List Var)):Prop:=R.length=S.length∧∀(i:Nat) (r s:List Var),R[i]? =some r→S[i]? =some s→Asc s∧r.Perm s
theorem RelR.put {n:Int} {R S:List (List Var)} {p:Piece} (h:RelR R S):RelR (DG n R p) (putPiece n S p):=by
 refine ⟨by rw [ζL,EF];exact h.1,fun i r s hr hs=>?_⟩
 unfold DG at hr
 unfold putPiece at hs
 cases hR:R[p.part.toNat]? with
 | none=>
   have hS:S[p.part.toNat]? =none:=by
    rw [Uw] at hR ⊢;have:=h.1;omega
   rw [hR] at hr;rw [hS] at hs;exact h.2 i r s hr hs
 | some r0=>
   obtain ⟨s0,hS⟩:∃s0,S[p.part.toNat]? =some s0:=Zm (by have:=Zj hR;have:=h.1;omega);rw [hR] at hr;rw [hS] at hs;simp only [] at hr hs;obtain ⟨a1,a2⟩:=h.2 _ _ _ hR hS;by_cases e:p.part.toNat=i
   · subst e;rw [Xs (Zj hR)] at hr;rw [Xs (Zj hS)] at hs
     cases hr;cases hs;exact ⟨OW a1,Zdi a1 a2⟩
   · rw [X0 e] at hr;rw [X0 e] at hs;exact h.2 i r s hr hs
theorem ZgE (n:Nat):RelR (List.replicate n []) (List.replicate n []):=⟨rfl,fun i r s hr hs=>by
 have h1:=Vv (Xb hr)
 have h2:=Vv (Xb hs)
 subst h1 h2
 exact ⟨List.Pairwise.nil, .refl _⟩⟩
theorem RelR.ok {m:Nat} {R S:List (List Var)} (h:RelR R S) (hS:RowsOk m S):RowsOk m R:=fun r hr=>by
 obtain ⟨i,hi⟩:=XP hr
 obtain ⟨s,hs⟩:∃s,S[i]? =some s:=Zm (by have:=Zj hi;have:=h.1;omega)
 obtain ⟨_,p⟩:=h.2 i r s hi hs
 have:=hS s (Xb hs)
 exact ⟨by rw [p.length_eq];exact this.1,fun x hx=>this.2 x (p.mem_iff.1 hx)⟩
theorem RelR.any {R S:List (List Var)} (h:RelR R S) (f:List Var→Bool) (hf:∀r s,r.Perm s→f r=f s):R.any f=S.any f:=by
 rw [Vy,Vs,Vs]
 constructor
 · rintro ⟨r,hr,hfr⟩;obtain ⟨i,hi⟩:=XP hr;obtain ⟨s,hs⟩:∃s,S[i]? =some s:=Zm (by have:=Zj hi;have:=h.1;omega);exact ⟨s,Xb hs,by rw [←hf r s (h.2 i r s hi hs).2];exact hfr⟩
 · rintro ⟨s,hs,hfs⟩;obtain ⟨i,hi⟩:=XP hs;obtain ⟨r,hr⟩:∃r,R[i]? =some r:=Zm (by have:=Zj hi;have:=h.1;omega);exact ⟨r,Xb hr,by rw [hf r s (h.2 i r s hr hi).2];exact hfs⟩
theorem ζM {r s:List Var} (h:r.Perm s):bigVars r=bigVars s:=by
 unfold bigVars
 rw [Vy,Vs,Vs]
 exact ⟨fun ⟨x,hx,e⟩=>⟨x,h.mem_iff.1 hx,e⟩,fun ⟨x,hx,e⟩=>⟨x,h.mem_iff.2 hx,e⟩⟩
theorem Ee {r s:List Var} (h:r.Perm s):Kc r=Kc s:=by unfold Kc;rw [h.length_eq]
theorem RelR.sorted {R S T:List (List Var)} (h:RelR R S) (hl:T.length=R.length) (hT:∀(i:Nat) (r t:List Var),R[i]? =some r→T[i]? =some t→Asc t∧t.Perm r):T=S:=by
 apply VG
 intro i
 cases hi:T[i]? with
 | none=>
   rw [Uw] at hi;rw [eq_comm,Uw];have:=h.1;omega
 | some t=>
   obtain ⟨r,hr⟩:∃r,R[i]? =some r:=Zm (by have:=Zj hi;omega);obtain ⟨s,hs⟩:∃s,S[i]? =some s:=Zm (by have:=Zj hr;have:=h.1;omega);obtain ⟨a,p⟩:=h.2 i r s hr hs;obtain ⟨a',p'⟩:=hT i r t hr hi;rw [hs,CM a p a' p']
def WR (R:List (List Var)):Prop:=∀r∈R,∀x∈r,WOk x.acts
theorem ζN {w:List ByteArray} {n:Int}:∀{r:List Var} {y:Var},y∈bump r w n→y.acts=w∨∃z∈r,z.acts=y.acts
 |[],y,hy=>by simp [bump] at hy;exact .inl (by rw [hy])
 | z :: r,y,hy=>by
   rw [bump] at hy;split at hy
   · rcases Xi.1 hy with rfl|hy
     · exact .inr ⟨z,sM,rfl⟩
     · exact .inr ⟨y,by simp [hy],rfl⟩
   · rcases Xi.1 hy with rfl|hy
     · exact .inr ⟨y,sM,rfl⟩
     · rcases ζN hy with h1|⟨z',hz',e⟩
       · exact .inl h1
       · exact .inr ⟨z',by simp [hz'],e⟩
theorem WR.put {n:Int} {R:List (List Var)} {p:Piece} (h:WR R) (hp:WOk p.word):WR (DG n R p):=by
 unfold DG
 split
 · rename_i r hr;intro r' hr' x hx;rcases Vq hr' with h1|h1
   · exact h r' h1 x hx
   · rw [h1] at hx;rcases ζN hx with e|⟨z,hz,e⟩
     · rw [e];exact hp
     · rw [←e];exact h r (Xb hr) z hz
 · exact h
theorem ZjV (n:Nat):WR (List.replicate n []):=fun r hr x hx=>by
 have:=Vv hr
 subst this;simp at hx
def Tv (f:List ByteArray→ByteArray):Nat→List Var→List (ByteArray×Value)
 |_,[]=>[]
 |i,x::r=>(f x.acts,Value.int .i64 (i:Int))::Tv f (i+1) r
theorem Ef {f:List ByteArray→ByteArray} {w:List ByteArray} {v:Value} (hw:WOk w) (hf:∀a b,WOk a→WOk b→f a=f b→a=b):∀{r:List Var} {i:Nat},(∀x∈r,WOk x.acts)→Y6 (Tv f i r) (f w)=some v→∃(j:Nat) (y:Var),v= .int .i64 ((i+j:Nat):Int)∧r[j]? =some y∧y.acts=w∧∀n,r.set j ⟨w,y.count+n⟩=bump r w n∧Tv f i (bump r w n)=Tv f i r
 |[],i,_,h=>by simp [Tv,Y6] at h
 | x ::r,i,hr,h=>by
   rw [Tv,Y6] at h;split at h
   · rename_i e;have e':=hf _ _ hw (hr x sM) e
     cases h;refine ⟨0,x,rfl,rfl,e'.symm,fun n=>?_⟩;rw [bump,UB e'.symm];exact ⟨by rw [e'];rfl,rfl⟩
   · rename_i hne;have hx:x.acts≠w:=fun e=>hne (by rw [e]);obtain ⟨j,y,hv,hy,hyw,hset⟩:=Ef hw hf (fun z hz=>hr z (by simp [hz])) h;refine ⟨j+1,y,by rw [hv,show i+1+j=i+(j+1) by omega],hy,hyw,fun n=>?_⟩;rw [bump,UA hx];exact ⟨by rw [List.set_cons_succ,(hset n).1],by rw [Tv,(hset n).2];rfl⟩
theorem Eg {f:List ByteArray→ByteArray} {w:List ByteArray}:∀{r:List Var} {i:Nat},Y6 (Tv f i r) (f w)=none→(∀x∈r,x.acts≠w)∧∀n,Tv f i (bump r w n)=WH (Tv f i r) (f w) (.int .i64 ((i+r.length:Nat):Int))
 |[],i,_=>⟨fun x h=>by simp at h,fun n=>rfl⟩
 | x :: r,i,h=>by
   rw [Tv,Y6] at h;split at h
   · cases h
   · rename_i hne;have hx:x.acts≠w:=fun e=>hne (by rw [e]);obtain ⟨h1,h2⟩:=Eg h;refine ⟨fun y hy=>?_,fun n=>?_⟩
     · rcases Xi.1 hy with rfl|hy
       · exact hx
       · exact h1 y hy
     · rw [bump,UA hx,Tv,h2 n,Tv,WH,UA hne,Xg,show i+1+r.length=i+(r.length+1) by omega]
theorem ZgF {r:List Var} {w:List ByteArray} {n:Int} (h:∀x∈r,x.acts≠w):(r++[(⟨w,0⟩:Var)]).set r.length (⟨w,0+n⟩:Var)=bump r w n:=by
 rw [RO h,Vk _ _ (Xc _),X6,Int.zero_add];rfl
end Go.Cb
namespace Go.Proofs.YtmkojdfiadbeeaaGreat
open Go.RowKit Go.Cb Go.En Tryz
set_option linter.all false
set_option maxRecDepth 100000
theorem PX:AggT prog 114 2=true:=by kernel_rfl
theorem Tm:AggT prog 28 2=true:=by kernel_rfl
theorem DI:AggT prog 42 2=true:=by kernel_rfl
theorem Za7:ElT prog 109 78 1 8 (.map none):=⟨underlying109,by kernel_rfl,rfl,dC⟩
theorem Eh:ElT prog 22 28 2 32 (.agg #[(.slice none 0 0),(.int .i64 0)]):=⟨underlying22,by kernel_rfl,rfl,dC⟩
theorem Zel:ElT prog 45 22 1 24 (.slice none 0 0):=⟨underlying45,by kernel_rfl,rfl,dC⟩
theorem KU:FldT prog 114 0 0=true:=by kernel_rfl
theorem Rx:FldT prog 114 1 1=true:=by kernel_rfl
theorem TS:FldT prog 28 0 0=true:=by kernel_rfl
theorem TT:FldT prog 28 1 1=true:=by kernel_rfl
theorem PY:FldT prog 42 0 0=true:=by kernel_rfl
theorem Lg:FldT prog 42 1 1=true:=by kernel_rfl
theorem Pm:MpT prog 78 9 3 .string (.int .i64 0):=⟨underlying78,underlying9, .inl rfl,by show ZeroT _ _ _;unfold ZeroT;kernel_rfl⟩
theorem GI:NoAgg prog 22=true:=by kernel_rfl
theorem LR:NoAgg prog 26=true:=by kernel_rfl
theorem KJ:NoAgg prog 3=true:=by kernel_rfl
theorem Sl:NoAgg prog 40=true:=by kernel_rfl
theorem Pn:NoAgg prog 78=true:=by kernel_rfl
theorem ZgG:NoAgg prog 9=true:=by kernel_rfl
theorem Tn:SlT prog 109 78 1=true:=by kernel_rfl
theorem DJ:SlT prog 110 114 2=true:=by kernel_rfl
theorem Jj:SlT prog 22 28 2=true:=by kernel_rfl
theorem Ei:SlT prog 26 9 1=true:=by kernel_rfl
theorem Sm:SlT prog 40 26 1=true:=by kernel_rfl
theorem Jk:SlT prog 45 22 1=true:=by kernel_rfl
theorem Zem:K6 prog 28=some ((.agg #[(.slice none 0 0),(.int .i64 0)]),([0,1]:List Nat).map fun o=>(o,1)):=by kernel_rfl
theorem Zen:(prog.info? 22).map (·.size)=some 1:=by kernel_rfl
theorem ZgH:(prog.info? 3).map (·.size)=some 1:=by kernel_rfl
theorem Zeo:(prog.info? 78).map (·.size)=some 1:=by kernel_rfl
theorem Za8:ZeroT prog 114 (.agg #[(.int .i64 0),(.slice none 0 0)]):=by unfold ZeroT;kernel_rfl
theorem Ej:ZeroT prog 28 (.agg #[(.slice none 0 0),(.int .i64 0)]):=by unfold ZeroT;kernel_rfl
theorem Ek {sL hP:List (Nat×Ent)} {t:Nat} {q:PV} (ht:lk sL t=some (.slice none 0 0,q)):J4 (⟨sL,hP⟩:St) (fun _:Unit=>⟨put t (.slice none 0 0, .sl 0 []) sL,hP⟩):=fun c a w ⟨F,H⟩=>by
 refine ⟨(),F,H.toHeapF,fun s u r hs=>?_,H.size,H.df⟩
 rcases Z2 hs with ⟨rfl,e1⟩|⟨_,hs'⟩
 · cases e1;exact ⟨(H.sl t _ _ ht).1, .emp none 0 (by unfold maxLen;omega) (fun _=>rfl)⟩
 · exact H.sl s u r hs'
theorem Zep (parts:List (List ByteArray)) (s:ByteArray):(Wc (skv (Ye 0 parts)) (.string s)).isSome=decide (0≤partOf parts s):=by
 rw [Jr,SI,Option.isSome_map,Tt]
theorem Za9 {parts:List (List ByteArray)} {l:List Var} {x:Var} {s:ByteArray} (hx:x∈l) (hs:s∈x.acts) (h:¬0≤partOf parts s):K3 parts l=false:=by
 cases hI:K3 parts l with
 |false=>rfl
 | true=>
   unfold K3 at hI;rw [Xj] at hI;have:=hI x hx;rw [Xj] at this;exact UC (UD (this s hs)) h
def RSp (x:List (List Var)×Int) (p:PV):Prop:=p= .tup [Zap x.1,Zf x.2]
theorem Sn {l:List Var} {c:Cut} {n:Int} (h:KX l c=([],n)):RSp (KX l c) (.tup [.sl 0 [],Zf n]):=by rw [h];rfl
theorem ζO {l:List Var} {c:Cut} (h:(validVars l&&YS c)=false):KX l c=([],1):=by unfold KX;rw [UB h]
theorem ZgI {l:List Var} {c:Cut} (h1:validVars l=true) (h2:YS c=true) (h:K3 c.parts l=false):KX l c=([],8):=by unfold KX;rw [h1,h2];simp [h]
def K' (e:Nat) (r:List Var):PV:= .own e 2 r.length (r.flatMap Wn)
def oAt (r:List Var):PV:= .omap (skv (Tv Gr 0 r))
theorem Zba (n e:Nat):∀(i:Nat) (p p':PV),(List.replicate n (PV.val (.slice none 0 0)))[i]? =some p→((List.replicate n ([]:List Var)).map (K' e))[i]? =some p'→ZbI p p':=fun i p p' h1 h2=>by
 rw [List.map_replicate] at h2
 have e1:=Vv (Xb h1)
 have e2:=Vv (Xb h2)
 exact .inr ⟨e1,_,_,e2⟩
theorem Zeq {n k:Nat} {v:PV} (hk:k<n):(((List.replicate k (PV.omap [])++List.replicate (n-k) (PV.val (.map none))).set k v).set k (.omap []))=List.replicate (k+1) (PV.omap [])++List.replicate (n-(k+1)) (PV.val (.map none)):=by
 rw [XK,Vk _ _ sM,XC,X6,show n-k=(n-(k+1))+1 by omega,List.replicate_succ,List.set_cons_zero,List.replicate_succ',XM]
 rfl
theorem ZgJ (n:Nat):List.replicate n (PV.omap [])++List.replicate (n-n) (PV.val (.map none))=(List.replicate n ([]:List Var)).map oAt:=by
 rw [X6,List.map_replicate];simp;exact .inr rfl
theorem Zer {parts:List (List ByteArray)} {s:ByteArray} (h:0≤partOf parts s):Y6 (Ye 0 parts) s=some (.int .i64 (partOf parts s)):=by
 have h1:=Tt parts s
 rw [Uy h] at h1
 obtain ⟨n,hn⟩:=Option.isSome_iff_exists.1 h1
 rw [SI,Zay,hn];rfl
theorem ζP {c:Cut} (h:YS c=true):1≤c.kind∧c.kind≤4∧2≤c.parts.length:=by
 simp only [YS,Xe,Ux] at h
 exact ⟨h.1.1.1,h.1.1.2,h.1.2⟩
theorem Zes {l:List Var} {c:Cut} (h1:validVars l=true) (h2:YS c=true) (h3:K3 c.parts l=true) (h:splitAll c (List.replicate c.parts.length []) l=none):KX l c=([],19):=by unfold KX;rw [h1,h2,h3,h];simp
theorem ζQ {c:Cut} {S:List (List Var)} {l:List Var} {k:Nat} {x:Var} (hx:l[k]? =some x):splitAll c S (l.drop k)=match Y1 c x.acts with|none=>none|some ps=>splitAll c (ps.foldl (putPiece x.count) S) (l.drop (k+1)):=by
 rw [Ws hx,splitAll]
 cases Y1 c x.acts<;>rfl
def ZjW (l:List Var) (c:Cut) (x:Nat×List (List Var)):Prop:=x.1≤l.length∧x.2.length=c.parts.length∧WR x.2∧∃S,RelR x.2 S∧RowsOk (x.1*1000300) S∧splitAll c (List.replicate c.parts.length []) l=splitAll c S (l.drop x.1)
theorem ZjX (l:List Var) (c:Cut):ZjW l c (0,List.replicate c.parts.length []):=⟨sM,sM,ZjV _,_,ZgE _,by rw [Ve];exact Zam _,rfl⟩
def Zet (c:Cut) (S:List (List Var)) (ps:List Piece) (cnt:Int) (k:Nat) (y:Nat×List (List Var)):Prop:=y.1≤ps.length∧y.2.length=c.parts.length∧WR y.2∧∃S',RelR y.2 S'∧RowsOk (k*1000300+y.1) S'∧ps.foldl (putPiece cnt) S=(ps.drop y.1).foldl (putPiece cnt) S'
theorem Zeu {c:Cut} {S R:List (List Var)} {ps:List Piece} {cnt:Int} {k i:Nat} {p:Piece} (h:Zet c S ps cnt k (i,R)) (hp:ps[i]? =some p) (hw:WOk p.word) (h0:0≤cnt) (h1:cnt≤1048576):Zet c S ps cnt k (i+1,DG cnt R p):=by
 obtain ⟨a1,a2,a3,S',a4,a5,a6⟩:=h
 have hlt:=Zj hp
 refine ⟨hlt,by show (DG cnt R p).length=_;rw [ζL];exact a2,a3.put hw,putPiece cnt S' p,a4.put,?_,?_⟩
 · have h9:=Cv (p:=p) h0 h1 a5;dsimp only at h9 ⊢;rw [Vf] at h9;exact h9
 rw [a6]
 show (ps.drop i).foldl _ _=_
 rw [Ws hp];rfl
theorem ZjY {c:Cut} {S R:List (List Var)} {k:Nat} (ps:List Piece) (cnt:Int) (h1:R.length=c.parts.length) (h2:WR R) (h3:RelR R S) (h4:RowsOk (k*1000300) S):Zet c S ps cnt k (0,R):=by
 refine ⟨Xn _,h1,h2,S,h3,?_,?_⟩
 · dsimp only;rw [VC];exact h4
 · dsimp only;rw [Vg]
theorem ZgK {l:List Var} {c:Cut} {S R:List (List Var)} {ps:List Piece} {cnt:Int} {k i:Nat} (h:Zet c S ps cnt k (i,R)) (hi:ps.length≤i) (hk:k<l.length) (hp:ps.length≤1000300) (hsp:splitAll c (List.replicate c.parts.length []) l=splitAll c (ps.foldl (putPiece cnt) S) (l.drop (k+1))):ZjW l c (k+1,R):=by
 obtain ⟨a1,a2,a3,S',a4,a5,a6⟩:=h
 refine ⟨hk,a2,a3,S',a4,fun r hr=>?_,?_⟩
 · have:=a5 r hr;have h2:k*1000300+i≤(k+1)*1000300:=by rw [XW];change i≤ps.length at a1;omega
   exact ⟨XG this.1 h2,fun x hx=>⟨(this.2 x hx).1,Int.le_trans (this.2 x hx).2 (Int.mul_le_mul_of_nonneg_right (Int.ofNat_le.2 h2) dC)⟩⟩
 · rw [hsp,a6];show splitAll c ((ps.drop i).foldl _ _) _=_;rw [XH hi];rfl
theorem Zev (a b:List ByteArray) (ha:WOk a) (hb:WOk b) (h:Gr a=Gr b):a=b:=by
 refine ZgB ha hb ?_
 have:=congrArg (fun s:ByteArray=>s.data.toList) h
 simpa [Gr] using this
structure Met (r:List Var) (pw:List ByteArray) (cnt:Int) (hd:Value) (r':List Var) (ix:Nat) (z:Var):Prop where
 one:hd.oneCell'=true
 at_:r'[ix]? =some z
 acts:z.acts=pw
 set:r'.set ix ⟨pw,z.count+cnt⟩=bump r pw cnt
 lo:0≤z.count
 hi:z.count≤400000000000000
 len:r'.length≤400000000
theorem PZ (r:List Var):Yt (r.flatMap Wn)=r.flatMap Wn:=by
 induction r with
 |nil=>rfl
 |cons x r ih=>rw [Xo,Su,ih];rfl
theorem Zbb (e n:Nat) (k:Nat) (T:List (List Var)) (h:n=T.length):share (.own e k n (T.map (K' 28)))=Zap T:=by
 subst h
 have:Yt (T.map (K' 28))=T.map Z4:=by
  rw [Z7,Xt];refine List.map_congr_left fun r _=>?_;show share (.own _ 2 r.length (r.flatMap Wn))=_;simp only [share,PZ];rfl
 simp only [share,this];rfl
theorem Zew {sL hP:List (Nat×Ent)} {e l:Nat} {h:Value} {r:List Var} (hl:lk hP l=some (h, .own e 2 r.length (r.flatMap Wn))):Sr (⟨sL,hP⟩:St) h (Z4 r):=by
 have:=Zc2 (sL:=sL) hl
 simp only [share,PZ] at this
 exact this
theorem ZcD {w:List ByteArray} (h:WOk w):Hc w:=⟨by have:=h.1;omega,fun s hs=>by have:=(SO (h.2 s hs)).2.2;omega⟩
theorem Zip (a:Var):¬cmpStrs a.acts a.acts<0:=fun h=>by have:=L8 a.acts;unfold ltW at this;simp [h] at this
theorem ZjZ (a b c:Var) (h1:cmpStrs a.acts b.acts<0) (h2:cmpStrs b.acts c.acts<0):cmpStrs a.acts c.acts<0:=UD (GB (Uy h1) (Uy h2))
theorem Zj0 (a b c:Var) (h1:¬cmpStrs a.acts b.acts<0) (h2:¬cmpStrs b.acts c.acts<0):¬cmpStrs a.acts c.acts<0:=fun h=>by
 by_cases h3:cmpStrs b.acts a.acts<0
 · exact h2 (UD (GB (Uy h3) (Uy h)))
 · have:=Lz (a:=a.acts) (b:=b.acts) (Uz h1) (Uz h3);rw [this] at h;exact h2 h
theorem Zj1 {r r':List Var} (hn:Nodup r) (hp:r'.Perm r) (hs:∀(i j:Nat) (a b:Var),i<j→r'[i]? =some a→r'[j]? =some b→¬cmpStrs b.acts a.acts<0):Asc r':=by
 have hn':Nodup r':=hn.perm hp.symm
 refine XT.2 fun i j hi hj hij=>?_
 have h1:=hs i j _ _ hij (Xp hi) (Xp hj)
 have h2:=(XT.1 hn') i j hi hj hij
 cases h3:ltW r'[i].acts r'[j].acts with
 |true=>rfl
 |false=>exact UC (Lz h3 (Uz h1)) h2
theorem ZgL {P:Program} {c:Ctx} {sL hP:List (Nat×Ent)} {ops:Array Oper} {Q:Exit→Act→World→Prop} {o:Oper} {rest:List Oper} {fs g k e d l:Nat} {cs:List PV} {h:Value} {q q':PV} {x y:Operand} {ats:Array TypeId} (hS:∀(p:Option Addr) (cap:Nat) (fv:Value) (w:World),Calls P fs #[.slice p 0 cap,fv] w fun e w'=>e= .returned (.tuple #[])∧w'=w)
 (hw:ZV ops sL o=some true) (hd:o.dst=some d) (hdn:d<c.nt) (ho:o.op= .call {callee:= .value (.func fs),args:= #[x,y],argTypes:=ats}) (hc:∀args w,(callFunc fs args).run P w= .ok (.enter fs args) w) (hx:ev sL x=some (h,q)) (hy:ev sL y=some (.func (.func g) #[] #[],q')) (hl:lk hP l=some (h, .own e k 0 cs))
 (kk:aL P c ops Q rest ⟨put d (.tuple #[], .val (.tuple #[])) sL,hP⟩):aL P c ops Q (o::rest) (⟨sL,hP⟩:St):=
 YJ hw fun a w F H=>by
  have hxv:=(H.rd.ev hx).1;have hyv:=(H.rd.ev hy).1;obtain ⟨xs,Fs,hrow,_⟩:=(H.tr l _ _ hl).row;obtain ⟨p,cap,rfl⟩:∃p cap,h= .slice p 0 cap:=by
   rcases YQ hrow with ⟨h1,_⟩|⟨g,cap,h1,_⟩
   · exact ⟨_,_,h1⟩
   · exact ⟨_,_,h1⟩
  unfold Oper.wp;have hrun:(execOp a.eval o).run P w= .ok (.enter fs #[.slice p 0 cap, .func (.func g) #[] #[]]) w:=by
   have hev:a.eval (.func fs)= .func (.func fs) #[] #[]:=rfl;simp [execOp,ho,resolve,Deferred.ofValue,hev,invoke,hxv,hyv,hc]
  rw [hrun,Oper.upon_enter];refine (hS p cap _ w).mono fun e' w' ⟨he',hw'⟩=>?_;subst he' hw';rw [hd];exact kk _ _ ⟨F,H.put hdn (.val _)⟩
theorem ZgM {l:List Var} {c:Cut} {S:List (List Var)} (h1:validVars l=true) (h2:YS c=true) (h3:K3 c.parts l=true) (h:splitAll c (List.replicate c.parts.length []) l=some S) (h4:S.any bigVars=true):KX l c=([],6):=by unfold KX;rw [h1,h2,h3,h];simp only [];simp [h4]
theorem ZgN {l:List Var} {c:Cut} {S:List (List Var)} (h1:validVars l=true) (h2:YS c=true) (h3:K3 c.parts l=true) (h:splitAll c (List.replicate c.parts.length []) l=some S) (h4:S.any bigVars=false) (h5:S.any Kc=true):KX l c=([],5):=by unfold KX;rw [h1,h2,h3,h];simp only [];rw [h4,h5];rfl
theorem ZgO {l:List Var} {c:Cut} {S:List (List Var)} (h1:validVars l=true) (h2:YS c=true) (h3:K3 c.parts l=true) (h:splitAll c (List.replicate c.parts.length []) l=some S) (h4:S.any bigVars=false) (h5:S.any Kc=false):KX l c=(S,0):=by unfold KX;rw [h1,h2,h3,h];simp only [];rw [h4,h5];rfl
theorem ZgP {f:List Var→Bool} {R:List (List Var)} (h:∀(i:Nat) (r:List Var),R[i]? =some r→f r=false):R.any f=false:=by
 rw [List.any_eq_false]
 intro r hr
 obtain ⟨i,hi⟩:=XP hr
 rw [h i r hi];simp
theorem ZcE {f:List Var→Bool} {R:List (List Var)} {i:Nat} {r:List Var} (hr:R[i]? =some r) (h:f r=true):R.any f=true:=Vs.2 ⟨r,Xb hr,h⟩
set_option maxHeartbeats 1000000 in
theorem ZgQ (l : List Var) (c:Cut) (hl0:Hd l) (hs:∀p∈c.parts,∀s∈p,s.size≤140737488355328) (hn1:c.parts.length≤1000000):
 AF prog 20 [Z4 l,EG c] (RSp (KX l c)):=by
 refine AF.of_body 190 func20 rfl ntmps20 (Xa rfl) ?_
 intro w0 M0 vs hl hv
 obtain ⟨v0,v1,rfl⟩:=W7 hl
 clear hl hv
 refine Zd ?_
 (refine Yi 3 2 fun h3=>?_<;>refine xL 4 Zb (xL 5 Zb ?_)<;>refine Zc ?_)
 refine (Bool.eq_false_or_eq_true (YS c)).elim (fun hF=>?_) (fun hF=>?_)
 · (refine Zo ?_ <;> (refine yL 31 (Zu 3 DI) fun v31 h=>?_;cases h)<;>(refine ZbF (R:=(· = .tup [.omap (skv (Ye 0 c.parts)),ZB true])) 32 32 201 rfl rfl (Xa rfl) rfl rfl rfl (SZ rfl (call64) rfl ((ζu c hs).mono fun p ⟨q,e1,e2,_⟩=>by rw [e1,e2 hF,hF])) ?_;rintro p' rfl;refine ⟨_,_,rfl,rfl,rfl,?_⟩;intro h32 v201 _ hv201 ho32 _;cases hv201)<;>refine xL 30 Za (xL 33 Zp (xL 34 Zp (xL 6 Zb (xL 7 Zb ?_))))<;>refine Zc ?_)
   refine ZE (En.freeze (l:=32) (t:=6) rfl rfl) fun _=>?_;(refine Zo ?_<;>refine xL 35 Za (xL 36 Yd (xL 37 Za (xL 38 Za ?_)))<;>(refine Oz 39 rfl rfl (Xa rfl) (SZ rfl (call9) rfl (Kq l hl0)) ?_;rintro p' rfl;refine ⟨rfl,?_⟩;intro v39 hv39;cases hv39)<;>refine xL 40 Yd (xL 41 Zt ?_)<;>refine Zc ?_)
   refine ZZ rfl ?_ ?_
   · intro hb;refine Zd ?_;(refine xL 4 Zb (xL 5 Zb ?_)<;>refine Zc ?_)
     refine YP (Ek (t:=4) rfl) fun _=>?_;refine YO (results20) rfl rfl (Sn (ζO ?_))
     cases h:validVars l
     · rfl
     · rw [h] at hb;cases hb
   · intro hb;have hV:validVars l=true:=by
      cases h:validVars l
      · rw [h] at hb;cases hb
      · rfl
     refine Zd ?_;(refine xL 42 Za (xL 43 (ZF Jj) (xL 44 Za ?_))<;>refine Zc ?_)
     refine Y2 42 rfl fun hlen=>?_;refine Zy (ι:={k:Nat//k≤l.length∧∀(j:Nat) (x:Var),j<k→l[j]? =some x→∀s∈x.acts,0≤partOf c.parts s}) (fun k=>⟨[(0,v0,Z4 l),(3,padd (sbase h3) 0, .val (padd (sbase h3) 0)),(6,h32, .smap (skv (Ye 0 c.parts))),(42,v0,Z4 l),(43, .int .i64 l.length,Zf l.length),(44, .int .i64 k.1,Zf k.1)],[(3,h3, .own 42 2 1 [Zf c.kind,Gj c.parts])]⟩) (fun k=>l.length-k.1) ⟨0,oM,fun j x hj=>oM⟩ (fun a w H=>H.weaken ⟨rfl,rfl,rfl,rfl,rfl,rfl,trivial⟩ ⟨rfl,trivial⟩) ?_;rintro ⟨k,hk,hpre⟩;dsimp only;refine Zd ?_;(refine xL 45 ZI ?_<;>refine Zc ?_)
     refine ZZ rfl ?_ ?_
     · intro hb5;(have hlt:k<l.length:=by have:=UD hb5;omega);obtain ⟨x,hx⟩:=Zm hlt;have hD:=Yz Ys l k x hx;have hfit:=YT Ys hx;refine Zd ?_;(refine xL 46 (Zv Jj) ?_<;>(refine yL 47 (Wl Tm) fun v47 h=>?_;cases h)<;>refine ZA [(.slice none 0 0),(.int .i64 0)] 2 9 Ej fun h9=>?_<;>refine Zw 9 Tm ?_<;>refine Zi ?_)
       (refine xL 48 (Zn 9 TS) ?_<;>(refine yL 49 (Zr 9 LR) fun v49 h=>?_;cases h)<;>refine xL 50 (ZF Ei) (xL 51 Za ?_)<;>refine Zc ?_)
       refine Y2 49 rfl fun hlenx=>?_;refine Zy (ι:={j:Nat//j≤x.acts.length∧∀(m:Nat) (s:ByteArray),m<j→x.acts[m]? =some s→0≤partOf c.parts s}) (fun j=>⟨[(0,v0,Z4 l),(3,padd (sbase h3) 0, .val (padd (sbase h3) 0)),(6,h32, .smap (skv (Ye 0 c.parts))),(42,v0,Z4 l),(43, .int .i64 l.length,Zf l.length),(44, .int .i64 k,Zf k),(49,v49,ZT x.acts),(50, .int .i64 x.acts.length,Zf x.acts.length),(51, .int .i64 j.1,Zf j.1)],[(3,h3, .own 42 2 1 [Zf c.kind,Gj c.parts])]⟩) (fun j=>x.acts.length-j.1) ⟨0,oM,fun m s hm=>oM⟩ (fun a w H=>H.weaken ⟨rfl,rfl,rfl,rfl,rfl,rfl,rfl,rfl,rfl,trivial⟩ ⟨rfl,trivial⟩) ?_;rintro ⟨j,hj,hprej⟩;dsimp only;refine Zd ?_;(refine xL 52 ZI ?_<;>refine Zc ?_)
       refine ZZ rfl ?_ ?_
       · intro hb8;(have hltj:j<x.acts.length:=by have:=UD hb8;omega);obtain ⟨s,hsj⟩:=Zm hltj;have e2:=Yq (f:=ZD) hsj;have hlook:=Zep c.parts s;refine Zd ?_;(refine xL 53 (Zv Ei) ?_<;>(refine yL 54 (ZN ZgG) fun v54 h=>?_;cases h)<;>refine xL 11 Zb ?_<;>refine Zi ?_)
         (refine xL 56 Za (xL 57 Za (xL 58 (ZhD Pm) (xL 55 Za (xL 59 Zp (xL 60 Zp (xL 12 Zb (xL 13 Zb ?_)))))))<;>refine Zi ?_)
         (refine xL 61 Za (xL 62 Yd ?_)<;>refine Zc ?_)
         refine ZZ rfl ?_ ?_
         · intro hb11;refine Zd ?_;(refine xL 4 Zb (xL 5 Zb ?_)<;>refine Zc ?_)
           refine YP (Ek (t:=4) rfl) fun _=>?_;refine YO (results20) rfl rfl (Sn (ZgI hV hF (Za9 (Xb hx) (Xb hsj) ?_)));rw [hlook] at hb11;simpa using hb11
         · intro hb11;refine Zd ?_;(refine xL 63 ZH (xL 51 Za ?_)<;>refine Zc ?_)
           refine Zh ⟨j+1,oM,fun m s' hm hs'=>?_⟩ (by show x.acts.length-(j+1)<x.acts.length-j;omega) ⟨rfl,rfl,rfl,rfl,rfl,rfl,rfl,rfl,rfl,trivial⟩ ⟨rfl,trivial⟩;by_cases e:m=j
           · subst e;rw [hsj] at hs';cases hs';rw [hlook] at hb11;simpa using hb11
           · exact hprej m s' oM hs'
       · intro hb8;(have hgej:x.acts.length≤j:=by have:=UE hb8;omega);refine Zd ?_;(refine xL 64 ZH (xL 44 Za ?_)<;>refine Zc ?_)
         refine Zh ⟨k+1,oM,fun j' x' hj' hx'=>?_⟩ (by show l.length-(k+1)<l.length-k;omega) ⟨rfl,rfl,rfl,rfl,rfl,rfl,trivial⟩ ⟨rfl,trivial⟩;by_cases e:j'=k
         · subst e;rw [hx] at hx';cases hx';intro s hs';obtain ⟨m,hm⟩:=XP hs';exact hprej m s (by have:=Zj hm;omega) hm
         · exact hpre j' x' oM hx'
     · intro hb5;(have hge:l.length≤k:=by have:=UE hb5;omega);have hP:∀x∈l,∀s∈x.acts,0≤partOf c.parts s:=fun x hx=>by
        obtain ⟨j,hj⟩:=XP hx;exact hpre j x (by have:=Zj hj;omega) hj
       refine nav ?_;clear hpre hge hb5 hk;(refine Zo ?_<;>refine xL 65 (Zn 3 Lg) ?_<;>(refine yL 66 (Zr 3 Sl) fun v66 h=>?_;cases h)<;>refine xL 67 (ZF Sm) ?_<;>refine Jt 68 Zel fun h68 ho68=>?_<;>refine xL 14 Zb ?_<;>refine Zi ?_)
       (refine xL 69 (Zn 3 Lg) ?_<;>(refine yL 70 (Zr 3 Sl) fun v70 h=>?_;cases h)<;>refine xL 71 (ZF Sm) ?_<;>refine Jt 72 Za7 fun h72 ho72=>?_<;>refine xL 15 Zb ?_<;>refine Zc ?_)
       refine ZE (S6 (l:=68) ((List.replicate c.parts.length ([]:List Var)).map (K' 28)) rfl sM (Zba _ _)) fun _=>?_;(refine Zo ?_<;>refine xL 73 Za (xL 74 (Y7 72 Tn) (xL 75 Za ?_))<;>refine Zc ?_)
       refine Zy (ι:={k:Nat//k≤c.parts.length}) (fun k=>⟨[(0,v0,Z4 l),(3,padd (sbase h3) 0, .val (padd (sbase h3) 0)),(6,h32, .smap (skv (Ye 0 c.parts))),(14,h68, .val h68),(15,h72, .val h72),(73,h72, .val h72),(74, .int .i64 c.parts.length,Zf c.parts.length),(75, .int .i64 k.1,Zf k.1)],[(3,h3, .own 42 2 1 [Zf c.kind,Gj c.parts]),(68,h68, .own 22 1 c.parts.length ((List.replicate c.parts.length ([]:List Var)).map (K' 28))),(72,h72, .own 78 1 c.parts.length (List.replicate k.1 (.omap [])++List.replicate (c.parts.length-k.1) (.val (.map none))))]⟩) (fun k=>c.parts.length-k.1) ⟨0,oM⟩ (fun a w H=>H.weaken ⟨rfl,rfl,rfl,rfl,rfl,rfl,rfl,rfl,trivial⟩ ⟨rfl,rfl,rfl,trivial⟩) ?_;rintro ⟨k,hk⟩;dsimp only;refine Zd ?_;(refine xL 76 ZI ?_<;>refine Zc ?_)
       refine ZZ rfl ?_ ?_
       · intro hb18;(have hlt:k<c.parts.length:=by have:=UD hb18;omega);refine Zd ?_;(refine xL 77 Za (xL 16 Zb ?_)<;>refine Zi ?_)
         (refine xL 78 Za (xL 79 Za ?_)<;>refine G7 80 fun h80 ho80=>?_<;>refine xL 81 (Zq 72 Tn) ?_<;>(refine K4 72 k rfl rfl Pn Zeo rfl rfl rfl (by assumption) rfl oM (by simp;omega) ?_)<;>refine Zc ?_)
         refine ZE (J5 (l:=72) (l':=80) (j:=k) rfl (Xs (by simp;omega)) rfl rfl) fun _=>?_;(refine Zo ?_<;>refine xL 82 ZH (xL 75 Za ?_)<;>refine Zc ?_)
         exact Zh ⟨k+1,oM⟩ (by show c.parts.length-(k+1)<c.parts.length-k;omega) ⟨rfl,rfl,rfl,rfl,rfl,rfl,rfl,rfl,trivial⟩ ⟨rfl,rfl,by show some _=some _;rw [Zeq hlt],trivial⟩
       · intro hb18;(have hge:k=c.parts.length:=by have:=UE hb18;omega);refine Zd ?_;(refine xL 83 Za (xL 84 (ZF Jj) (xL 85 Za ?_))<;>refine Zc ?_)
         refine Zy (ι:={x:Nat×List (List Var)//ZjW l c x}) (fun x=>⟨[(0,v0,Z4 l),(3,padd (sbase h3) 0, .val (padd (sbase h3) 0)),(6,h32, .smap (skv (Ye 0 c.parts))),(14,h68, .val h68),(15,h72, .val h72),(83,v0,Z4 l),(84, .int .i64 l.length,Zf l.length),(85, .int .i64 x.1.1,Zf x.1.1)],[(3,h3, .own 42 2 1 [Zf c.kind,Gj c.parts]),(68,h68, .own 22 1 c.parts.length (x.1.2.map (K' 28))),(72,h72, .own 78 1 c.parts.length (x.1.2.map oAt))]⟩) (fun x=>l.length-x.1.1) ⟨(0,List.replicate c.parts.length []),ZjX l c⟩ (fun a w H=>H.weaken ⟨rfl,rfl,rfl,rfl,rfl,rfl,rfl,rfl,trivial⟩ ⟨rfl,rfl,by show some _=some _;rw [hge,ZgJ],trivial⟩) ?_;clear hge hb18 hk;rintro ⟨⟨k,R⟩,hI⟩;dsimp only;obtain ⟨hk,hRl,hWR,S,hRS,hSok,hsp⟩:=id hI;dsimp only at hk hRl hWR hRS hSok hsp;refine Zd ?_;(refine xL 86 ZI ?_<;>refine Zc ?_)
         refine ZZ rfl ?_ ?_
         · intro hb23;(have hlt:k<l.length:=by have:=UD hb23;omega);obtain ⟨x,hx⟩:=Zm hlt;have hD:=Yz Ys l k x hx;have hfit:=YT Ys hx;have hin:=hP x (Xb hx);have hok:=LX hV hx;have hcnt:=Cw hok;(have hxl:x.acts.length≤200:=by simp only [WT,Xe,Ux] at hok;exact hok.1.1.1);have hkind:=ζP hF;have hCS:=Zgy c x.acts (Ye 0 c.parts) (fun t ht=>Zer (hin t ht)) hin oM oM hn1 hkind.1 hkind.2.1;rw [ζQ hx] at hsp;refine Zd ?_;(refine xL 87 (Zv Jj) ?_<;>(refine yL 88 (Wl Tm) fun v88 h=>?_;cases h)<;>refine ZA [(.slice none 0 0),(.int .i64 0)] 2 18 Ej fun h18=>?_<;>refine Zw 18 Tm ?_<;>refine Zc ?_)
           refine (show Y1 c x.acts=none∨∃ps,Y1 c x.acts=some ps by cases Y1 c x.acts with|none=>exact .inl rfl|some ps=>exact .inr ⟨ps,rfl⟩).elim (fun hO=>?_) (fun hO=>hO.elim fun ps hO=>?_)
           · rw [hO] at hCS hsp;(refine Zo ?_<;>refine xL 90 (Zn 18 TS) ?_<;>(refine yL 91 (Zr 18 LR) fun v91 h=>?_;cases h)<;>refine xL 92 (Zn 3 PY) ?_<;>(refine yL 93 (Zr 3 KJ) fun v93 h=>?_;cases h)<;>refine xL 94 (Zn 3 Lg) ?_<;>(refine yL 95 (Zr 3 Sl) fun v95 h=>?_;cases h)<;>refine xL 96 (ZF Sm) (xL 97 Za ?_)<;>(refine ZbF (R:=(· = .tup [.val (.slice none 0 0),ZB false])) 98 202 203 rfl rfl (Xa rfl) rfl rfl rfl (SZ rfl (call66) rfl hCS) ?_;rintro p' rfl;refine ⟨_,_,rfl,rfl,rfl,?_⟩;intro v202 v203 hv202 hv203 _ _;cases hv202;cases hv203)<;>refine xL 89 Za (xL 99 Zp (xL 100 Zp (xL 19 Zb (xL 20 Zb ?_))))<;>refine Zi ?_)
             (refine xL 101 Za (xL 102 Yd ?_)<;>refine Zc ?_)
             refine ZZ rfl ?_ (fun h=>by cases h);intro _;refine Zd ?_;(refine xL 4 Zb (xL 5 Zb ?_)<;>refine Zc ?_)
             refine YP (Ek (t:=4) rfl) fun _=>?_;refine YO (results20) rfl rfl (Sn (Zes hV hF ?_ hsp));unfold K3;rw [Xj];intro x hx;rw [Xj];exact fun s hs=>Uy (hP x hx s hs)
           · rw [hO] at hCS hsp;(refine Zo ?_<;>refine xL 90 (Zn 18 TS) ?_<;>(refine yL 91 (Zr 18 LR) fun v91 h=>?_;cases h)<;>refine xL 92 (Zn 3 PY) ?_<;>(refine yL 93 (Zr 3 KJ) fun v93 h=>?_;cases h)<;>refine xL 94 (Zn 3 Lg) ?_<;>(refine yL 95 (Zr 3 Sl) fun v95 h=>?_;cases h)<;>refine xL 96 (ZF Sm) (xL 97 Za ?_)<;>(refine ZbF (R:=(· = .tup [Ov ps,ZB true])) 98 202 203 rfl rfl (Xa rfl) rfl rfl rfl (SZ rfl (call66) rfl hCS) ?_;rintro p' rfl;refine ⟨_,_,rfl,rfl,rfl,?_⟩;intro v202 v203 hv202 hv203 _ _;cases hv203)<;>refine xL 89 Za (xL 99 Zp (xL 100 Zp (xL 19 Zb (xL 20 Zb ?_))))<;>refine Zi ?_)
             (refine xL 101 Za (xL 102 Yd ?_)<;>refine Zc ?_)
             refine ZZ rfl (fun h=>by cases h) ?_;intro _;refine nav ?_;have hPS:=Zal oM hin hO;have hWP:=ζK hok hO;(have hpl:ps.length≤1000300:=by have:=hPS.1;omega);(have hk300:l.length≤300:=by simp only [validVars,Xe,Ux] at hV;exact hV.1);(refine Zo ?_<;>refine xL 103 Za (xL 104 (ZF DJ) (xL 105 Za ?_))<;>refine Zc ?_)
             refine Zy (ι:={y:Nat×List (List Var)//Zet c S ps x.count k y}) (fun y=>⟨[(0,v0,Z4 l),(3,padd (sbase h3) 0, .val (padd (sbase h3) 0)),(6,h32, .smap (skv (Ye 0 c.parts))),(14,h68, .val h68),(15,h72, .val h72),(83,v0,Z4 l),(84, .int .i64 l.length,Zf l.length),(85, .int .i64 k,Zf k),(18,padd (sbase h18) 0, .val (padd (sbase h18) 0)),(103,v202,Ov ps),(104, .int .i64 ps.length,Zf ps.length),(105, .int .i64 y.1.1,Zf y.1.1)],[(3,h3, .own 42 2 1 [Zf c.kind,Gj c.parts]),(18,h18, .own 28 2 1 [ZT x.acts,Zf x.count]),(68,h68, .own 22 1 c.parts.length (y.1.2.map (K' 28))),(72,h72, .own 78 1 c.parts.length (y.1.2.map oAt))]⟩) (fun y=>ps.length-y.1.1) ⟨(0,R),ZjY ps x.count hRl hWR hRS hSok⟩ (fun a w H=>H.weaken ⟨rfl,rfl,rfl,rfl,rfl,rfl,rfl,rfl,rfl,rfl,rfl,rfl,trivial⟩ ⟨rfl,rfl,rfl,rfl,trivial⟩) ?_;rintro ⟨⟨i,R'⟩,hIP⟩;dsimp only;refine Zd ?_;(refine xL 106 ZI ?_<;>refine Zc ?_)
             refine ZZ rfl ?_ ?_
             · intro hb29;(have hlti:i<ps.length:=by have:=UD hb29;omega);obtain ⟨⟨pp,pw⟩,hp⟩:=Zm hlti;have hpm:=Xb hp;have hpw:WOk pw:=hWP _ hpm;have hpr:=hPS.2 _ hpm;dsimp only at hpr;obtain ⟨pn,rfl⟩:∃pn:Nat,pp=(pn:Int):=⟨pp.toNat,oM⟩;obtain ⟨b1,b2,b3,S',b4,b5,b6⟩:=id hIP;dsimp only at b1 b2 b3 b4 b5 b6;obtain ⟨r,hr⟩:∃r,R'[pn]? =some r:=Zm oM;have hput:DG x.count R' ⟨(pn:Int),pw⟩=R'.set pn (bump r pw x.count):=Zek hr;have hRok:=b4.ok b5 r (Xb hr);have hD2:=Yz Dz ps i _ hp;have hfit2:=YT Dz hp;have hWr:∀y∈r,WOk y.acts:=b3 r (Xb hr);refine Zd ?_;(refine xL 107 (Zv DJ) ?_<;>(refine yL 108 (Wl PX) fun v108 h=>?_;cases h)<;>refine ZA [(.int .i64 0),(.slice none 0 0)] 2 22 Za8 fun h22=>?_<;>refine Zw 22 PX ?_<;>refine Zi ?_)
               (refine xL 109 (Zn 22 Rx) ?_<;>(refine yL 110 (Zr 22 LR) fun v110 h=>?_;cases h)<;>(refine Oz 111 rfl rfl (Xa rfl) (SZ rfl (call67) rfl (ZjU pw (by have:=hpw.1;omega) (ZgD hpw))) ?_;rintro p' rfl;refine ⟨rfl,?_⟩;intro v111 hv111;cases hv111)<;>refine xL 23 Zb ?_<;>refine Zc ?_)
               (have hcA:(R'.map oAt)[pn]? =some (oAt r):=by rw [Xm,hr];rfl);(have hcR:(R'.map (K' 28))[pn]? =some (K' 28 r):=by rw [Xm,hr];rfl);refine ZE (Gl (l:=72) (l':=600) (j:=pn) rfl hcA rfl rfl) fun v=>?_;obtain ⟨m,hm⟩:=v;dsimp only;refine ZE (Gl (l:=68) (l':=601) (j:=pn) rfl hcR rfl rfl) fun v=>?_;obtain ⟨hd,hhd⟩:=v;dsimp only;have hc72:((R'.map oAt).set pn (.val m))[pn]? =some (.val m):=Xs (by rw [Xd];omega);have hc68:((R'.map (K' 28)).set pn (.val hd))[pn]? =some (.val hd):=Xs (by rw [Xd];omega);(refine Zo ?_<;>refine xL 113 Za (xL 114 (Zn 22 KU) ?_)<;>(refine yL 115 (Zr 22 KJ) fun v115 h=>?_;cases h)<;>refine xL 116 (Zq 72 Tn) ?_<;>(refine Oy 117 rfl rfl (Xa rfl) (Wk 72 pn Pn rfl rfl rfl (by first|rfl|omega) hc72 rfl) ?_;intro v117 hv117;cases hv117)<;>refine xL 118 Za (xL 119 (Cy 600 Pm) (xL 112 Za (xL 120 Zp (xL 121 Zp (xL 24 Zb (xL 25 Zb ?_))))))<;>refine Zi ?_)
               (refine xL 122 Za (xL 123 Yd ?_)<;>refine Zc ?_)
               have hbnd:r.length≤400000000∧∀y∈r,0≤y.count∧y.count≤400000000000000:=by
                refine ⟨by have:=hRok.1;omega,fun y hy=>?_⟩;have:=hRok.2 y hy;exact ⟨this.1,by have:=this.2;omega⟩
               refine Js (ι:={y:Value×List Var×Nat×Var//Met r pw x.count y.1 y.2.1 y.2.2.1 y.2.2.2}) (fun y=>⟨[(0,v0,Z4 l),(3,padd (sbase h3) 0, .val (padd (sbase h3) 0)),(6,h32, .smap (skv (Ye 0 c.parts))),(14,h68, .val h68),(15,h72, .val h72),(83,v0,Z4 l),(84, .int .i64 l.length,Zf l.length),(85, .int .i64 k,Zf k),(18,padd (sbase h18) 0, .val (padd (sbase h18) 0)),(103,v202,Ov ps),(104, .int .i64 ps.length,Zf ps.length),(105, .int .i64 i,Zf i),(22,padd (sbase h22) 0, .val (padd (sbase h22) 0)),(24, .int .i64 y.1.2.2.1,Zf y.1.2.2.1)],[(3,h3, .own 42 2 1 [Zf c.kind,Gj c.parts]),(18,h18, .own 28 2 1 [ZT x.acts,Zf x.count]),(22,h22, .own 114 2 1 [Zf pn,ZT pw]),(68,h68, .own 22 1 c.parts.length ((R'.map (K' 28)).set pn (.val y.1.1))),(72,h72, .own 78 1 c.parts.length ((R'.map oAt).set pn (.val m))),(600,m,oAt (bump r pw x.count)),(601,y.1.1,K' 28 y.1.2.1)]⟩) ?_ ?_
               · refine ZZ rfl ?_ ?_
                 · intro hb33;have hmg:Y6 (Tv Gr 0 r) (Gr pw)=none:=by
                    rw [←Jr]
                    cases h:Wc (skv (Tv Gr 0 r)) (.string (Gr pw)) with
                    |none=>rfl
                    |some v=>rw [h] at hb33;cases hb33
                   obtain ⟨hnew,hat⟩:=Eg hmg;have hat':=hat x.count;rw [Xx] at hat';have hrb:=hbnd.1;have hpwl:=hpw.1;have hfr:=Yr Ys r;unfold K';refine Zd ?_;(refine xL 124 Za (xL 125 (Zn 22 KU) ?_)<;>(refine yL 126 (Zr 22 KJ) fun v126 h=>?_;cases h)<;>refine xL 127 (Zq 68 Jk) ?_<;>(refine Oy 128 rfl rfl (Xa rfl) (Wk 68 pn GI rfl rfl rfl (by first|rfl|omega) hc68 rfl) ?_;intro v128 hv128;cases hv128)<;>refine xL 129 (Y7 601 Jj) (xL 24 Zb ?_)<;>refine Zi ?_)
                   (refine xL 130 Za (xL 131 (Zn 22 KU) ?_)<;>(refine yL 132 (Zr 22 KJ) fun v132 h=>?_;cases h)<;>refine xL 133 (Zq 72 Tn) ?_<;>(refine Oy 134 rfl rfl (Xa rfl) (Wk 72 pn Pn rfl rfl rfl (by first|rfl|omega) hc72 rfl) ?_;intro v134 hv134;cases hv134)<;>refine xL 135 Za (xL 136 Za ?_)<;>refine L5 600 Pm ?_<;>refine Zc ?_)
                   (refine ZM (fun i=>([15]:List Nat).elem i) [22,68] kR ?_<;>refine xD 0 137 rfl Za ?_<;>refine xD 1 138 rfl (Zn 22 KU) ?_<;>(refine yD 2 139 rfl (Zr 22 KJ) fun v139 h=>?_;cases h)<;>refine xD 3 140 rfl Za ?_<;>refine xD 4 141 rfl (Zn 22 KU) ?_<;>(refine yD 5 142 rfl (Zr 22 KJ) fun v142 h=>?_;cases h)<;>refine xD 6 143 rfl (Zq 68 Jk) ?_<;>(refine D7 7 144 rfl kR rfl rfl (Xa rfl) (Wk 68 pn GI rfl rfl rfl (by first|rfl|omega) hc68 rfl) ?_;intro v144 hv144;cases hv144)<;>refine xE 8 145 rfl (Zn 22 Rx) ?_<;>(refine yE 9 146 rfl (Zr 22 LR) fun v146 h=>?_;cases h)<;>(refine Zk 10 kR ?_)<;>(refine Zg rfl fun w9 M9 N9 DQ back=>?_)<;>(refine Oz 147 rfl rfl (Xa rfl) (SZ rfl (call68) rfl (Zio pw oM)) ?_;rintro p' rfl;refine ⟨rfl,?_⟩;intro v147 hv147;clear hv147)<;>refine Ze (back _ (nrm ?_))<;>refine xE 11 148 rfl (ZO Zem) ?_<;>(refine Zk 12 kR ?_)<;>(refine Zg rfl fun w9 M9 N9 DQ back=>?_)<;>refine Ju 149 Eh fun h149 ho149=>?_<;>refine Ze (back _ (nrm ?_))<;>(refine Zk 13 kR ?_)<;>(refine Zg rfl fun w9 M9 N9 DQ back=>?_)<;>refine Kd 601 149 150 Eh fun h150 ho150=>?_<;>refine Ze (back _ (nrm ?_))<;>refine xE 14 151 rfl (Zq 68 Jk) ?_<;>(refine Zk 15 kR ?_)<;>(refine W8 rfl rfl kR fun DQ back=>?_)<;>(refine K4 68 pn rfl rfl GI Zen rfl rfl rfl (by assumption) rfl (by first|rfl|omega) (by rw [Xh,Xd];omega) ?_)<;>refine Ze (back _ (nav ?_))<;>try dsimp only)
                   refine Yh (Z5 (l:=150) 601 rfl rfl) fun _=>?_;(have hrow3:r.flatMap Wn++[ZT pw,Zf 0]=(r++[(⟨pw,0⟩:Var)]).flatMap Wn:=by rw [Va];rfl);refine RD ⟨(h150,r++[⟨pw,0⟩],r.length,⟨pw,0⟩),ho150,sM,rfl,ZgF hnew,by show (0:Int)≤0;decide,by show (0:Int)≤400000000000000;decide,by simp;omega⟩ ⟨rfl,rfl,rfl,rfl,rfl,rfl,rfl,rfl,rfl,rfl,rfl,rfl,rfl,rfl,trivial⟩ ⟨rfl,rfl,rfl,?_,rfl,?_,?_,trivial⟩
                   · show some _=some _;rw [XK]
                   · show some _=some _;unfold oAt;rw [hat',Ty]
                   · show some _=some _;rw [←hrow3];simp;rfl
                 · intro hb33;obtain ⟨v,hmg⟩:∃v,Y6 (Tv Gr 0 r) (Gr pw)=some v:=by
                    rw [←Jr]
                    cases h:Wc (skv (Tv Gr 0 r)) (.string (Gr pw)) with
                    |none=>rw [h] at hb33;cases hb33
                    |some v=>exact ⟨v,rfl⟩
                   obtain ⟨ix,z,hv,hz,hzw,hset⟩:=Ef hpw Zev hWr hmg;rw [Xx] at hv;have hzb:=hbnd.2 z (Xb hz);refine nav ?_;refine RD ⟨(hd,r,ix,z),hhd,hz,hzw,(hset _).1,hzb.1,hzb.2,hbnd.1⟩ ⟨rfl,rfl,rfl,rfl,rfl,rfl,rfl,rfl,rfl,rfl,rfl,rfl,rfl,?_,trivial⟩ ⟨rfl,rfl,rfl,rfl,rfl,?_,rfl,trivial⟩
                   · show some _=some _;rw [Jr,hmg,hv];rfl
                   · show some _=some _;unfold oAt;rw [(hset _).2]
               · rintro ⟨⟨hd',r',ix,z⟩,hM⟩;obtain ⟨m1,m2,m3,m4,m5,m6,m7⟩:=id hM;dsimp only at m1 m2 m3 m4 m5 m6 m7 ⊢;have hc1:((R'.map (K' 28)).set pn (.val hd'))[pn]? =some (.val hd'):=Xs (by rw [Xd];omega);(have hcz:(r'.flatMap Wn)[ix*2+1]? =some (Zf z.count):=by rw [WU Ys m2 (j:=1) dC];rfl);have hixl:=Zj m2;have hfl:=Yr Ys r';unfold K';refine nav ?_;(refine ZM (fun i=>([14]:List Nat).elem i) [18,22,68,601] kR ?_<;>refine xD 0 152 rfl Za ?_<;>refine xD 1 153 rfl (Zn 22 KU) ?_<;>(refine yD 2 154 rfl (Zr 22 KJ) fun v154 h=>?_;cases h)<;>refine xD 3 155 rfl (Zq 68 Jk) ?_<;>(refine D7 4 156 rfl kR rfl rfl (Xa rfl) (Wk 68 pn GI rfl rfl rfl (by first|rfl|omega) hc1 rfl) ?_;intro v156 hv156;cases hv156)<;>refine xD 5 157 rfl Za ?_<;>refine xD 6 158 rfl (Zq 601 Jj) ?_<;>refine xD 7 159 rfl (Zn 601 TT) ?_<;>(refine D7 8 160 rfl kR rfl rfl (Xa rfl) (Wk 601 (ix*2+1) KJ rfl rfl rfl (by first|rfl|omega) hcz rfl) ?_;intro v160 hv160;cases hv160)<;>refine xE 9 161 rfl (Zn 18 TT) ?_<;>(refine yE 10 162 rfl (Zr 18 KJ) fun v162 h=>?_;cases h)<;>refine xE 11 163 rfl ZH ?_<;>refine xE 12 164 rfl (Zq 601 Jj) ?_<;>refine xE 13 165 rfl (Zn 601 TT) ?_<;>(refine Zk 14 kR ?_)<;>(refine W8 rfl rfl kR fun DQ back=>?_)<;>(refine K4 601 (ix*2+1) rfl rfl KJ ZgH rfl rfl rfl rfl rfl (by first|rfl|omega) (by rw [hfl];omega) ?_)<;>refine Ze (back _ (nav ?_))<;>try dsimp only)
                 have hset2:(r'.flatMap Wn).set (ix*2+1) (Zf (z.count+x.count))=(bump r pw x.count).flatMap Wn:=by
                  rw [Gi Ys r' ix 1 z ⟨pw,z.count+x.count⟩ _ m2 dC (by simp [Wn,m3]),m4]
                 (have hlen2:r'.length=(bump r pw x.count).length:=by rw [←m4,Xh]);refine ZE (J5 (l:=68) (l':=601) (j:=pn) rfl hc1 rfl rfl) fun _=>?_;refine ZE (J5 (l:=72) (l':=600) (j:=pn) rfl hc72 rfl rfl) fun _=>?_;(refine Zo ?_<;>refine xL 166 ZH (xL 105 Za ?_)<;>refine Zc ?_)
                 have hIP2:Zet c S ps x.count k (i+1,R'.set pn (bump r pw x.count)):=hput▸Zeu hIP hp hpw oM hcnt.2;have hrows:((R'.map (K' 28)).set pn (.val hd')).set pn (.own 28 2 r'.length ((r'.flatMap Wn).set (ix*2+1) (Zf (z.count+x.count))))=(R'.set pn (bump r pw x.count)).map (K' 28):=by
                  rw [XK,hset2,hlen2,List.map_set];rfl
                 have hats:((R'.map oAt).set pn (.val m)).set pn (oAt (bump r pw x.count))=(R'.set pn (bump r pw x.count)).map oAt:=by
                  rw [XK,List.map_set]
                 exact Zh ⟨(i+1,R'.set pn (bump r pw x.count)),hIP2⟩ (by show ps.length-(i+1)<ps.length-i;omega) ⟨rfl,rfl,rfl,rfl,rfl,rfl,rfl,rfl,rfl,rfl,rfl,rfl,trivial⟩ ⟨rfl,rfl,congrArg (fun cs=>some (h68,PV.own 22 1 c.parts.length cs)) hrows,congrArg (fun cs=>some (h72,PV.own 78 1 c.parts.length cs)) hats,trivial⟩
             · intro hb29;(have hgei:ps.length≤i:=by have:=UE hb29;omega);refine Zd ?_;(refine xL 167 ZH (xL 85 Za ?_)<;>refine Zc ?_)
               exact Zh ⟨(k+1,R'),ZgK hIP hgei hlt hpl hsp⟩ (by show l.length-(k+1)<l.length-k;omega) ⟨rfl,rfl,rfl,rfl,rfl,rfl,rfl,rfl,trivial⟩ ⟨rfl,rfl,rfl,trivial⟩
         · intro hb23;(have hge:l.length≤k:=by have:=UE hb23;omega);(have hall:splitAll c (List.replicate c.parts.length []) l=some S:=by rw [hsp,XH hge];rfl);have hIn:K3 c.parts l=true:=by
            unfold K3;rw [Xj];intro x hx;rw [Xj];exact fun s hs=>Uy (hP x hx s hs)
           refine Zd ?_;(refine xL 168 Za (xL 169 (Y7 68 Jk) (xL 170 Za ?_))<;>refine Zc ?_)
           refine Zy (ι:={j:Nat//j≤c.parts.length∧∀(i:Nat) (r:List Var),i<j→R[i]? =some r→bigVars r=false}) (fun j=>⟨[(14,h68, .val h68),(168,h68, .val h68),(169, .int .i64 c.parts.length,Zf c.parts.length),(170, .int .i64 j.1,Zf j.1)],[(68,h68, .own 22 1 c.parts.length (R.map (K' 28)))]⟩) (fun j=>c.parts.length-j.1) ⟨0,oM,fun i r hi=>oM⟩ (fun a w H=>H.weaken ⟨rfl,rfl,rfl,rfl,trivial⟩ ⟨rfl,trivial⟩) ?_;rintro ⟨j,hj,hbig⟩;dsimp only;refine Zd ?_;(refine xL 171 ZI ?_<;>refine Zc ?_)
           refine ZZ rfl ?_ ?_
           · intro hb41;(have hltj:j<c.parts.length:=by have:=UD hb41;omega);obtain ⟨r,hr⟩:∃r,R[j]? =some r:=Zm oM;(have hcR:(R.map (K' 28))[j]? =some (K' 28 r):=by rw [Xm,hr];rfl);refine ZE (Gl (l:=68) (l':=601) (j:=j) rfl hcR rfl rfl) fun v=>?_;obtain ⟨hd,hhd⟩:=v;dsimp only;have hc68:((R.map (K' 28)).set j (.val hd))[j]? =some (.val hd):=Xs (by rw [Xd];omega);refine Zd ?_;(refine xL 172 (Zq 68 Jk) ?_<;>(refine Oy 173 rfl rfl (Xa rfl) (Wk 68 j GI rfl rfl rfl (by first|rfl|omega) hc68 rfl) ?_;intro v173 hv173;cases hv173)<;>refine xL 27 Zb ?_<;>refine Zi ?_)
             (refine xL 174 Za ?_<;>(refine Oz 175 rfl rfl (Xa rfl) (Ze9 rfl (call38) (ps:=[Z4 r, .fn 69 []]) ⟨⟨_,_,rfl,Zew (l:=601) rfl⟩,⟨_,_,rfl,JM (x:= .func 69) rfl⟩,trivial⟩ (G9 69 [] (fun x=>decide (1048576<x.count)) r (call69) (fun x _=>Zeh x)) (fun p hp=>by rw [hp];rfl)) ?_;rintro p' rfl;refine ⟨rfl,?_⟩;intro v175 hv175;cases hv175)<;>refine Zc ?_)
             refine ZZ rfl ?_ ?_
             · intro hb43;refine Zd ?_;(refine xL 4 Zb (xL 5 Zb ?_)<;>refine Zc ?_)
               refine YP (Ek (t:=4) rfl) fun _=>?_;refine YO (results20) rfl rfl (Sn (ZgM hV hF hIn hall ?_));rw [←hRS.any bigVars fun _ _ h=>ζM h];exact ZcE hr hb43
             · intro hb43;refine Zd ?_;(refine xL 176 ZH (xL 170 Za ?_)<;>refine Zc ?_)
               refine Yh (J5 (l:=68) (l':=601) (j:=j) rfl hc68 rfl rfl) fun _=>?_;have hcs:((R.map (K' 28)).set j (.val hd)).set j (K' 28 r)=R.map (K' 28):=by
                rw [XK];exact Rm hcR
               refine Zh ⟨j+1,oM,fun i r' hi hr'=>?_⟩ (by show c.parts.length-(j+1)<c.parts.length-j;omega) ⟨rfl,rfl,rfl,rfl,trivial⟩ ⟨by show some _=some _;rw [hcs],trivial⟩;by_cases e:i=j
               · subst e;rw [hr] at hr';cases hr';exact hb43
               · exact hbig i r' oM hr'
           · intro hb41;(have hgej:c.parts.length≤j:=by have:=UE hb41;omega);have hB:S.any bigVars=false:=by
              rw [←hRS.any bigVars fun _ _ h=>ζM h];exact ZgP fun i r hr=>hbig i r (by have:=Zj hr;omega) hr
             refine nav ?_;clear hbig hgej hb41 hj;(refine Zo ?_<;>refine xL 177 Za (xL 178 (Y7 68 Jk) (xL 179 Za ?_))<;>refine Zc ?_)
             refine Zy (ι:={y:Nat×List (List Var)//y.1≤c.parts.length∧y.2.length=R.length∧(∀(i:Nat) (r t:List Var),R[i]? =some r→y.2[i]? =some t→(i<y.1→Asc t∧t.Perm r)∧(y.1≤i→t=r))∧∀(i:Nat) (r:List Var),i<y.1→R[i]? =some r→Kc r=false}) (fun y=>⟨[(14,h68, .val h68),(177,h68, .val h68),(178, .int .i64 c.parts.length,Zf c.parts.length),(179, .int .i64 y.1.1,Zf y.1.1)],[(68,h68, .own 22 1 c.parts.length (y.1.2.map (K' 28)))]⟩) (fun y=>c.parts.length-y.1.1) ⟨(0,R),sM,rfl,fun i r t hr ht=>⟨fun h=>by simp at h,fun _=>by dsimp only at ht;rw [hr] at ht;cases ht;rfl⟩,fun i r h=>by simp at h⟩ (fun a w H=>H.weaken ⟨rfl,rfl,rfl,rfl,trivial⟩ ⟨rfl,trivial⟩) ?_;rintro ⟨⟨j,T⟩,hj,hTl,hT,hmany⟩;dsimp only at hj hTl hT hmany ⊢;refine Zd ?_;(refine xL 180 ZI ?_<;>refine Zc ?_)
             refine ZZ rfl ?_ ?_
             · intro hb47;(have hltj:j<c.parts.length:=by have:=UD hb47;omega);obtain ⟨r,hr⟩:∃r,R[j]? =some r:=Zm oM;have hTr:T[j]? =some r:=by
                obtain ⟨t,ht⟩:∃t,T[j]? =some t:=Zm oM;rw [ht,(hT j r t hr ht).2 (Xc _)]
               (have hcR:(T.map (K' 28))[j]? =some (K' 28 r):=by rw [Xm,hTr];rfl);refine ZE (Gl (l:=68) (l':=601) (j:=j) rfl hcR rfl rfl) fun v=>?_;obtain ⟨hd,hhd⟩:=v;dsimp only;have hc68:((T.map (K' 28)).set j (.val hd))[j]? =some (.val hd):=Xs (by rw [Xd];omega);have hWr:∀y∈r,WOk y.acts:=hWR r (Xb hr);obtain ⟨sj,hsj⟩:∃s,S[j]? =some s:=Zm (by have:=hRS.1;omega);have hnd:Nodup r:=((hRS.2 j r sj hr hsj).1.nodup).perm (hRS.2 j r sj hr hsj).2.symm;have hnext:∀t',Asc t'→t'.Perm r→∀(i:Nat) (r0 t:List Var),R[i]? =some r0→(T.set j t')[i]? =some t→(i<j+1→Asc t∧t.Perm r0)∧(j+1≤i→t=r0):=fun t' h1 h2 i r0 t hr0 ht=>by
                by_cases e:i=j
                · subst e;rw [Xs oM] at ht;rw [hr] at hr0
                  cases ht;cases hr0;exact ⟨fun _=>⟨h1,h2⟩,fun h=>oM⟩
                · rw [X0 (Ne.symm e)] at ht;have:=hT i r0 t hr0 ht;exact ⟨fun h=>this.1 oM,fun h=>this.2 oM⟩
               have hcs:∀t':List Var,t'.length=r.length→((T.map (K' 28)).set j (.val hd)).set j (.own 28 2 r.length (t'.flatMap Wn))=(T.set j t').map (K' 28):=fun t' h=>by
                rw [XK,←h,List.map_set];rfl
               unfold K';refine Zd ?_;(refine xL 181 (Zq 68 Jk) ?_<;>(refine Oy 182 rfl rfl (Xa rfl) (Wk 68 j GI rfl rfl rfl (by first|rfl|omega) hc68 rfl) ?_;intro v182 hv182;cases hv182)<;>refine xL 29 Zb ?_<;>refine Zi ?_)
               (refine xL 183 Za (xL 184 (Y7 601 Jj) (xL 185 YV ?_))<;>refine Zc ?_)
               refine ZZ rfl ?_ ?_
               · intro hb49;refine Zd ?_;(refine xL 4 Zb (xL 5 Zb ?_)<;>refine Zc ?_)
                 refine YP (Ek (t:=4) rfl) fun _=>?_;refine YO (results20) rfl rfl (Sn (ZgN hV hF hIn hall hB ?_));rw [←hRS.any Kc fun _ _ h=>Ee h];exact ZcE hr (by unfold Kc;have:=UD hb49;exact Uy oM)
               · intro hb49;(have hle:r.length≤300:=by have:=UE hb49;omega);have hm1:∀(i:Nat) (r0:List Var),i<j+1→R[i]? =some r0→Kc r0=false:=fun i r0 hi hr0=>by
                  by_cases e:i=j
                  · subst e;rw [hr] at hr0;cases hr0;unfold Kc;exact Uz oM
                  · exact hmany i r0 oM hr0
                 refine (show r=[]∨0<r.length by cases r with|nil=>exact .inl rfl|cons=>exact .inr sM).elim (fun h0=>?_) (fun h0=>?_)
                 · (have hl0:r.length=0:=by rw [h0];rfl);refine Zd ?_;(refine xL 186 Za ?_<;>(refine ZgL (l:=601) Ca rfl rfl (Xa rfl) rfl (call70) rfl rfl (by rw [hl0];rfl) ?_)<;>refine Zc ?_)
                   refine ZE (J5 (l:=68) (l':=601) (j:=j) rfl hc68 rfl rfl) fun _=>?_;(refine Zo ?_<;>refine xL 188 ZH (xL 179 Za ?_)<;>refine Zc ?_)
                   exact Zh ⟨(j+1,T.set j r),by show j+1≤_;omega,by show (T.set j r).length=_;rw [Xh];exact hTl,hnext r (by rw [h0];exact List.Pairwise.nil) (.refl _),hm1⟩ (by show c.parts.length-(j+1)<c.parts.length-j;omega) ⟨rfl,rfl,rfl,rfl,trivial⟩ ⟨congrArg (fun cs=>some (h68,PV.own 22 1 c.parts.length cs)) (hcs r rfl),trivial⟩
                 · refine Zd ?_;(refine xL 186 Za ?_<;>(refine EL (l:=601) (f:=Wn) (rows:=r) (cmp:=fun a b:Var=>cmpStrs a.acts b.acts) Zej Ys dC (fun _=>rfl) Zip ZjZ Zj0 (fun x y M W u v hx hy hu hv=>Zei x y (ZcD (hWr x hx)) (ZcD (hWr y hy)) M W u v hu hv) h0 oM rfl rfl (Xa rfl) rfl (call70) rfl rfl rfl ?_;intro r2 hp2 hs2)<;>refine Zc ?_)
                   refine ZE (J5 (l:=68) (l':=601) (j:=j) rfl hc68 rfl rfl) fun _=>?_;(refine Zo ?_<;>refine xL 188 ZH (xL 179 Za ?_)<;>refine Zc ?_)
                   exact Zh ⟨(j+1,T.set j r2),by show j+1≤_;omega,by show (T.set j r2).length=_;rw [Xh];exact hTl,hnext r2 (Zj1 hnd hp2 hs2) hp2,hm1⟩ (by show c.parts.length-(j+1)<c.parts.length-j;omega) ⟨rfl,rfl,rfl,rfl,trivial⟩ ⟨congrArg (fun cs=>some (h68,PV.own 22 1 c.parts.length cs)) (hcs r2 hp2.length_eq),trivial⟩
             · intro hb47;(have hgej:c.parts.length≤j:=by have:=UE hb47;omega);have hM:S.any Kc=false:=by
                rw [←hRS.any Kc fun _ _ h=>Ee h];exact ZgP fun i r hr=>hmany i r (by have:=Zj hr;omega) hr
               have hTS:T=S:=hRS.sorted hTl fun i r t hr ht=>(hT i r t hr ht).1 (by have:=Zj hr;omega);refine Zd ?_;(refine xL 189 Za (xL 4 Zb (xL 5 Zb ?_))<;>refine Zc ?_)
               refine YP (En.freeze (l:=68) (t:=4) rfl rfl) fun _=>?_;refine YO (results20) rfl rfl ?_;rw [ZgO hV hF hIn hall hB hM,Zbb _ _ _ _ oM,hTS];rfl
 · (refine Zo ?_<;>(refine yL 31 (Zu 3 DI) fun v31 h=>?_;cases h)<;>(refine ZbF (R:=fun p=>∃q,p= .tup [q,ZB false]∧JL q=true) 32 32 201 rfl rfl (Xa rfl) rfl rfl rfl (SZ rfl (call64) rfl ((ζu c hs).mono fun p ⟨q,e1,_,e3⟩=>⟨q,by rw [e1,hF],by rcases e3 with rfl|⟨es,rfl⟩<;>rfl⟩)) ?_;rintro p' ⟨q,rfl,hq⟩;refine ⟨_,_,rfl,hq,rfl,?_⟩;intro h32 v201 _ hv201 ho32 _;cases hv201)<;>refine xL 30 Za (xL 33 Zp (xL 34 Zp (xL 6 Zb (xL 7 Zb ?_))))<;>refine Zi ?_)
   (refine xL 35 Za (xL 36 Yd (xL 37 Za ?_))<;>refine kL 38 ?_<;>refine kL 39 ?_<;>refine kL 40 ?_<;>refine xL 41 Zt ?_<;>refine Zc ?_)
   refine ZZ rfl ?_ (fun h=>by cases h);intro _;refine Zd ?_;(refine xL 4 Zb (xL 5 Zb ?_)<;>refine Zc ?_)
   refine YP (Ek (t:=4) rfl) fun _=>?_;refine YO (results20) rfl rfl (Sn (ζO ?_));rw [hF];simp
open Go.RowKit Go.Cb Go.En Go.ChangeShapes Go.WideShapes Go.ChangeAt
theorem ZkP:Dec prog 9 1 (fun s:ByteArray=>[ZD s]) (fun s=>s.size≤140737488355328):=Zh6 underlying9 kR
theorem Zi6:Dec prog 26 1 (fun l=>[ZT l]) Hc:=
 EY id (HQ underlying26 kR dC (Xa kR) ZkP) (fun _=>rfl) (fun l=>by show [PV.sl l.length (l.map ZD)]=_;rw [CY]) (fun _ h=>h)
theorem ZkQ:Dec prog 3 1 (fun n:Int=>[Zf n]) (fun n=> -9223372036854775808≤n∧n≤9223372036854775807):=Zh5 underlying3 kR
section
variable {κ:Type} [DecidableEq κ]
def iget:List (κ×Int)→κ→Int
 |[],_=>0
 |x::l,k=>if k=x.1 then x.2 else iget l k
def G3:List (κ×Int)→κ→Int→List (κ×Int)
 |[],k,v=>[(k,v)]
 |x::l,k,v=>if k=x.1 then (k,v)::l else x::G3 l k v
def Zex (m:List (κ×Int)) (k:κ) (n:Int):List (κ×Int):=G3 m k (iget m k+n)
def Wq (m:List (κ×Int)):List (κ×Value):=m.map fun x=>(x.1, .int .i64 x.2)
theorem DK (m:List (κ×Int)) (k:κ):(Y6 (Wq m) k).getD (.int .i64 0)= .int .i64 (iget m k):=by
 induction m with
 |nil=>rfl
 | cons x m ih=>
   show (Y6 ((x.1,Value.int .i64 x.2)::Wq m) k).getD _=_;rw [Y6,iget];split
   · rfl
   · exact ih
theorem DL (m:List (κ×Int)) (k:κ) (v:Int):WH (Wq m) k (.int .i64 v)=Wq (G3 m k v):=by
 induction m with
 |nil=>rfl
 | cons x m ih=>
   show WH ((x.1,Value.int .i64 x.2)::Wq m) k _=_;rw [WH,G3];split
   · rfl
   · rw [ih];rfl
theorem Zey {m:List (κ×Int)} {k:κ} {v:Int}:∀x,x∈(G3 m k v).map (·.1)↔x=k∨x∈m.map (·.1):=by
 induction m with
 |nil=>intro x;simp [G3]
 | cons y m ih=>
   intro x;rw [G3];split
   · rename_i e;subst e;simp
   · rw [Xk,Xi,ih,Xk,Xi];constructor
     · rintro (h|h|h)
       · exact .inr (.inl h)
       · exact .inl h
       · exact .inr (.inr h)
     · rintro (h|h|h)
       · exact .inr (.inl h)
       · exact .inl h
       · exact .inr (.inr h)
theorem Zbc {m:List (κ×Int)} {k:κ} {v:Int} (hn:(m.map (·.1)).Nodup):((G3 m k v).map (·.1)).Nodup:=by
 induction m with
 |nil=>simp [G3]
 | cons y m ih=>
   rw [G3];rw [Xk,Vj] at hn;split
   · rename_i e;rw [Xk,Vj];dsimp only;rw [e];exact hn
   · rename_i e;rw [Xk,Vj];refine ⟨fun h=>?_,ih hn.2⟩;rcases (Zey _).1 h with h|h
     · exact e h.symm
     · exact hn.1 h
theorem ZgR (m:List (κ×Int)) (k:κ) (v:Int):(G3 m k v).length≤m.length+1:=by
 induction m with
 |nil=>simp [G3]
 |cons y m ih=>rw [G3];split<;>simp<;>omega
end
def mkC (x:ByteArray×Int):Cnt:=⟨x.1,x.2⟩
def mkF (x:Pr×Int):Flw:=⟨x.1.1,x.1.2,x.2⟩
def Zj2:Value×Value→Cnt
 |(.string s, .int _ n)=>⟨s,n⟩
 |_=>⟨ByteArray.empty,0⟩
theorem Ziq (m:List (ByteArray×Int)):(skv (Wq m)).map Zj2=m.map mkC:=by
 unfold skv Wq
 rw [Xt,Xt]
 rfl
theorem Zir {m:List (ByteArray×Int)} {x:Value×Value} (h:x∈skv (Wq m)):∃s n,(s,n)∈m∧x.1= .string s∧x.2= .int .i64 n:=by
 unfold skv Wq at h
 rw [Xt] at h
 obtain ⟨y,hy,rfl⟩:=Xr.1 h
 exact ⟨y.1,y.2,hy,rfl,rfl⟩
def Zj3:Value×Value→Flw
 |(.agg ⟨[.string a, .string b]⟩, .int _ n)=>⟨a,b,n⟩
 |_=>⟨ByteArray.empty,ByteArray.empty,0⟩
theorem Zis (m:List (Pr×Int)):(akv (Wq m)).map Zj3=m.map mkF:=by
 unfold akv Wq
 rw [Xt,Xt]
 rfl
theorem Zit {m:List (Pr×Int)} {x:Value×Value} (h:x∈akv (Wq m)):∃k n,(k,n)∈m∧x.1=JH k∧x.2= .int .i64 n:=by
 unfold akv Wq at h
 rw [Xt] at h
 obtain ⟨y,hy,rfl⟩:=Xr.1 h
 exact ⟨y.1,y.2,hy,rfl,rfl⟩
def SameC (L:List Cnt) (m:List (ByteArray×Int)):Prop:=L.Perm (m.map mkC)∧L.Pairwise fun a b=>strLt a.name b.name=true
def SameF (L:List Flw) (m:List (Pr×Int)):Prop:=L.Perm (m.map mkF)∧L.Pairwise fun a b=>WG a b<0
theorem ζR {L rows:List Cnt} {m:List (ByteArray×Int)} (hn:(m.map (·.1)).Nodup) (hp:L.Perm (m.map mkC)) (hr:rows.Perm L) (ho:∀(i j:Nat) (a b:Cnt),i<j→rows[i]? =some a→rows[j]? =some b→¬ZS b.name a.name<0):SameC rows m:=by
 refine ⟨hr.trans hp,?_⟩
 have h1:(rows.map (·.name)).Nodup:=by
  have h2:=((hr.trans hp).map (·.name));rw [Xt] at h2;exact (h2.pairwise_iff (R:=(· ≠ ·)) fun h=>Ne.symm h).2 hn
 rw [List.nodup_iff_pairwise_ne,Vn] at h1
 rw [XT] at h1 ⊢
 intro i j hi hj hij
 have h3:=h1 i j hi hj hij
 have h4:=ho i j _ _ hij (Xp hi) (Xp hj)
 rw [JO] at h4
 cases h5:strLt rows[i].name rows[j].name with
 |true=>rfl
 |false=>exact UC (KE h5 (by simpa using h4)) h3
theorem P0 {a b:Flw}:WG a b=0↔a.src=b.src∧a.dst=b.dst:=by
 unfold WG
 by_cases h:ZS a.src b.src=0
 · rw [UB h,Wz];exact ⟨fun h2=>⟨Wz.1 h,h2⟩,fun h2=>h2.2⟩
 · rw [UA h];exact ⟨fun h2=>UC h2 h,fun h2=>UC (Wz.2 h2.1) h⟩
theorem To {a b:Flw}:WG a b<0↔strLt a.src b.src=true∨(a.src=b.src∧strLt a.dst b.dst=true):=by
 unfold WG
 by_cases h:ZS a.src b.src=0
 · rw [UB h,JO];have h1:=Wz.1 h;constructor
   · exact fun h2=> .inr ⟨h1,h2⟩
   · rintro (h2|h2)
     · rw [h1,Wt] at h2;exact UC h2 dC
     · exact h2.2
 · rw [UA h,JO];constructor
   · exact fun h2=> .inl h2
   · rintro (h2|h2)
     · exact h2
     · exact UC (Wz.2 h2.1) h
theorem Gy {a b:Flw} (h:¬WG b a<0) (hne:¬(a.src=b.src∧a.dst=b.dst)):WG a b<0:=by
 rw [To] at h ⊢
 cases h1:strLt a.src b.src with
 |true=>exact .inl rfl
 | false=>
   have h2:strLt b.src a.src=false:=by
    cases h3:strLt b.src a.src with
    |false=>rfl
    |true=>exact UC (.inl h3) h
   have h4:=KE h1 h2;refine .inr ⟨h4,?_⟩
   cases h5:strLt a.dst b.dst with
   |true=>rfl
   | false=>
     have h6:strLt b.dst a.dst=false:=by
      cases h7:strLt b.dst a.dst with
      |false=>rfl
      |true=>exact UC (.inr ⟨h4.symm,h7⟩) h
     exact UC ⟨h4,KE h5 h6⟩ hne
theorem JF {a b c:Flw} (h:WG a b<0) (k:WG b c<0):WG a c<0:=by
 rw [To] at h k ⊢
 rcases h with h|⟨h1,h2⟩
 · rcases k with k|⟨k1,k2⟩
   · exact .inl (Wy h k)
   · exact .inl (k1▸h)
 · rcases k with k|⟨k1,k2⟩
   · exact .inl (h1▸k)
   · exact .inr ⟨h1.trans k1,Wy h2 k2⟩
theorem J2 (a:Flw):¬WG a a<0:=by rw [P0.2 ⟨rfl,rfl⟩];decide
theorem Zez {a b c:Flw} (h:¬WG a b<0) (k:¬WG b c<0):¬WG a c<0:=fun hc=>by
 by_cases e1:b.src=a.src∧b.dst=a.dst
 · refine k ?_;rw [To] at hc ⊢;rw [e1.1,e1.2];exact hc
 · by_cases e2:c.src=b.src∧c.dst=b.dst
   · refine h ?_;rw [To] at hc ⊢;rw [←e2.1,←e2.2];exact hc
   · have h1:=Gy h e1;have h2:=Gy k e2;exact J2 _ (JF hc (JF h2 h1))
theorem ζS {L rows:List Flw} {m:List (Pr×Int)} (hn:(m.map (·.1)).Nodup) (hp:L.Perm (m.map mkF)) (hr:rows.Perm L) (ho:∀(i j:Nat) (a b:Flw),i<j→rows[i]? =some a→rows[j]? =some b→¬WG b a<0):SameF rows m:=by
 refine ⟨hr.trans hp,?_⟩
 have h1:(rows.map fun f=>((f.src,f.dst):Pr)).Nodup:=by
  have h2:=((hr.trans hp).map fun f=>((f.src,f.dst):Pr));rw [Xt] at h2;exact (h2.pairwise_iff (R:=(· ≠ ·)) fun h=>Ne.symm h).2 hn
 rw [List.nodup_iff_pairwise_ne,Vn] at h1
 rw [XT] at h1 ⊢
 intro i j hi hj hij
 have h3:=h1 i j hi hj hij
 have h4:=ho i j _ _ hij (Xp hi) (Xp hj)
 exact Gy h4 fun e=>h3 (Prod.ext e.1 e.2)
theorem ZeA {a b c:ByteArray} (h:ZS a b<0) (k:ZS b c<0):ZS a c<0:=by
 rw [JO] at h k ⊢;exact Wy h k
theorem Zbd (a:ByteArray):¬ZS a a<0:=by rw [Wz.2 rfl];decide
theorem ZeB {a b c:ByteArray} (h:¬ZS a b<0) (k:¬ZS b c<0):¬ZS a c<0:=fun hc=>by
 rw [JO] at h k hc
 by_cases e:strLt b a=true
 · exact k (Wy e hc)
 · have h1:a=b:=KE (by simpa using h) (by simpa using e);rw [h1] at hc;exact k hc
end Go.Proofs.YtmkojdfiadbeeaaGreat
namespace Go.En
open Go.RowKit Go.Cb
theorem AFg.exact2 {P:Program} {g:Nat} {p q:PV} {x:Value} (h:AFg P g [p,q] (· = .val x)) {M:BS} {W:World} {u v:Value} (hu:Shr M W u p) (hv:Shr M W v q):
 Calls P g #[u,v] W fun e w'=>e= .returned x∧∃q os',w'=Go.Sort.grow (W.drewN q) os':=h.exact (vs:=[u,v]) rfl fun i a r h1 h2=>by
 match i with
 |0=>simp at h1 h2;subst h1 h2;exact hu
 |1=>simp at h1 h2;subst h1 h2;exact hv
 |i+2=>simp at h1
end Go.En
namespace Go.Proofs.YtmkojdfiadbeeaaGreat
open Go.RowKit Go.Cb Go.En Tryz
set_option linter.all false
set_option maxRecDepth 100000
theorem El:ElT prog 31 169 2 24 (.agg #[(.string ByteArray.empty),(.int .i64 0)]):=⟨underlying31,by kernel_rfl,rfl,dC⟩
theorem Zbe:K6 prog 169=some ((.agg #[(.string ByteArray.empty),(.int .i64 0)]),([0,1]:List Nat).map fun o=>(o,1)):=by kernel_rfl
theorem DN (s:ByteArray):AFg prog 198 [ZD s] (· =ZB false):=by
 refine AFg.of_body 6 func198 rfl ntmps198 (Xa rfl) ?_
 intro w0 M0 vs hl hv
 obtain ⟨v0,rfl⟩:=YG hl
 obtain rfl:=hv 0 _ _ rfl rfl
 clear hl hv
 refine Zd ?_
 (refine xL 2 Zb ?_<;>refine Zi ?_)
 (refine xL 3 Za (xL 4 Za (xL 5 Zar (xL 2 Zb ?_)))<;>refine Zc ?_)
 refine Zl (results198) rfl ?_
 simp
theorem TU (a b:ByteArray):AFg prog 137 [ZD a,ZD b] (· =Zf (ZS a b)):=by
 refine AFg.of_body 20 func137 rfl ntmps137 (Xa rfl) ?_
 intro w0 M0 vs hl hv
 obtain ⟨v0,v1,rfl⟩:=W7 hl
 obtain rfl:=hv 0 _ _ rfl rfl
 obtain rfl:=hv 1 _ _ rfl rfl
 clear hl hv
 refine Zd ?_
 (refine xL 4 Zb ?_<;>refine Zi ?_)
 (refine xL 7 Za ?_<;>(refine cS 8 (cA call198 (DN a)) fun v8 h=>?_;cases h)<;>refine xL 5 Zb ?_<;>refine Zi ?_)
 (refine xL 9 Za ?_<;>(refine cS 10 (cA call198 (DN b)) fun v10 h=>?_;cases h)<;>refine xL 6 Zb ?_<;>refine Zi ?_)
 (refine xL 11 Za ?_<;>refine Zc ?_)
 refine cCf ?_
 refine Zd ?_
 (refine xL 13 Za ?_<;>refine Zc ?_)
 refine cCf ?_
 refine Zd ?_
 (refine xL 14 Za (xL 15 Za (xL 16 Zas ?_))<;>refine Zc ?_)
 refine cX ?_ ?_<;>intro hb16
 · first|exact bN hb16|(
 refine Zd ?_;(refine xL 4 Zb ?_<;>refine Zc ?_)
 refine Zl (results137) rfl ?_;rw [RJ hb16])
 · first|exact bN hb16|(
 refine Zd ?_;(refine xL 17 Za (xL 18 Za (xL 19 Zat ?_))<;>refine Zc ?_)
 refine cX ?_ ?_<;>intro hb19
 · first|exact bN hb19|(
 refine Zd ?_;(refine xL 4 Zb ?_<;>refine Zc ?_)
 refine Zl (results137) rfl ?_;rw [RL hb19])
 · first|exact bN hb19|(
 refine Zd ?_;(refine xL 4 Zb ?_<;>refine Zc ?_)
 refine Zl (results137) rfl ?_;rw [RN hb16 hb19]))
theorem Ziu (l:List Int):AFg prog 141 [pInts l] (· =Zf (Wu l)):=by
 refine AFg.of_body 18 func141 rfl ntmps141 (Xa rfl) ?_
 intro w0 M0 vs hl hv
 obtain ⟨v0,rfl⟩:=YG hl
 clear hl hv
 refine Y2 0 rfl fun hlen=>?_
 refine Zd ?_
 (refine xL 2 Zb ?_<;>refine Zi ?_)
 (refine xL 3 Zb ?_<;>refine Zi ?_)
 (refine xL 6 Za (xL 7 (ZF Yb) (xL 8 Za ?_))<;>refine Zc ?_)
 refine Zy (ι:={k:Nat//k≤l.length∧Wu l=Wu (l.drop k)}) (fun k=>⟨[(3,_,_),(6,_,_),(7,_,_),(8, .int .i64 k.1,Zf k.1)],[]⟩) (fun k=>l.length-k.1) ⟨0,oM,rfl⟩ (fun a w H=>H.weaken ⟨rfl,rfl,rfl,rfl,trivial⟩ trivial) ?_
 rintro ⟨k,hk,hp⟩
 dsimp only
 refine Zd ?_
 (refine xL 9 ZI ?_<;>refine Zc ?_)
 refine cX ?_ ?_<;>intro hb9
 · first |exact bN hb9|(
 obtain ⟨x,hx⟩:=Zm (show k<l.length by omega);have e1:=Yq (f:=Zf) hx;(have hs:Wu (l.drop k)=if x=0 then Wu (l.drop (k+1)) else x:=by rw [Ws hx,Wu]);refine Zd ?_;(refine xL 10 (Zv Yb) ?_<;>(refine yL 11 (ZN Ya) fun v11 h=>?_;cases h)<;>refine xL 5 Zb ?_<;>refine Zi ?_)
 (refine xL 12 Za (xL 13 Za (xL 14 Wg ?_))<;>refine Zc ?_)
 refine cX ?_ ?_<;>intro hb14
 · first|exact bN hb14|(
 refine Zd ?_;(refine xL 15 Za (xL 2 Zb ?_)<;>refine Zc ?_)
 refine Zl (results141) rfl ?_;rw [hp,hs,UA hb14])
 · first|exact bN hb14|(
 refine Zd ?_;(refine xL 16 ZH (xL 8 Za ?_)<;>refine Zc ?_)
 refine Zh (
  ⟨k+1,oM,by rw [hp,hs,UB (by simpa using hb14)]⟩
  ) (by dsimp only;omega) ⟨rfl,rfl,rfl,rfl,trivial⟩ trivial))
 · first|exact bN hb9|(
 refine Zd ?_;(refine xL 17 Za (xL 2 Zb ?_)<;>refine Zc ?_)
 refine Zl (results141) rfl ?_;rw [hp,XH oM];rfl)
theorem Zbf (a b:Flw):AFg prog 102 [.agg (RU a), .agg (RU b)] (· =Zf (WG a b)):=by
 refine AFg.of_body 17 func102 rfl ntmps102 (Xa rfl) ?_
 intro w0 M0 vs hl hv
 obtain ⟨v0,v1,rfl⟩:=W7 hl
 clear hl hv
 refine Zd ?_
 (refine Yi 2 3 fun h2=>?_<;>refine Yi 3 3 fun h3=>?_<;>refine xL 4 Zb ?_<;>refine Zc ?_)
 (refine ZM (fun i=>([]:List Nat).elem i) [2,3] kR ?_<;>refine xD 0 5 rfl (Zn 2 KR) ?_<;>(refine yD 1 6 rfl (Zr 2 ZP) fun v6 h=>?_;cases h)<;>refine xD 2 7 rfl (Zn 3 KR) ?_<;>(refine yD 3 8 rfl (Zr 3 ZP) fun v8 h=>?_;cases h)<;>refine xD 5 10 rfl (Zn 2 KS) ?_<;>(refine yD 6 11 rfl (Zr 2 ZP) fun v11 h=>?_;cases h)<;>refine xD 7 12 rfl (Zn 3 KS) ?_<;>(refine yD 8 13 rfl (Zr 3 ZP) fun v13 h=>?_;cases h)<;>(refine Zk 4 kR ?_)<;>(refine Zg rfl fun w9 M9 N9 DQ back=>?_)<;>(refine cS 9 (cA call137 (TU a.src b.src)) fun v9 h=>?_;cases h)<;>refine Ze (back _ (nrm ?_))<;>(refine Zk 9 kR ?_)<;>(refine Zg rfl fun w9 M9 N9 DQ back=>?_)<;>(refine cS 14 (cA call137 (TU a.dst b.dst)) fun v14 h=>?_;cases h)<;>refine Ze (back _ (nrm ?_))<;>(refine Zk 10 kR ?_)<;>(refine Zg rfl fun w9 M9 N9 DQ back=>?_)<;>refine L4 (xs:=[_,_]) 15 WF fun h15 ho15=>?_<;>refine Ze (back _ (nrm ?_))<;>(refine Zk 11 kR ?_)<;>(refine Zg rfl fun w9 M9 N9 DQ back=>?_)<;>(refine ZJ (En.freeze (l:=15) (t:=15) rfl rfl) fun _=>?_;refine cS 16 (cA call141 (Ziu [ZS a.src b.src,ZS a.dst b.dst])) fun v16 h=>?_;cases h)<;>refine Ze (back _ (nrm ?_))<;>refine xE 12 4 rfl Zb ?_<;>refine Ym kR (nav ?_)<;>try dsimp only)
 refine Zl (results102) rfl ?_
 unfold WG Wu Wu Wu
 by_cases h:ZS a.src b.src=0
 · rw [UB h,UB h];split<;>simp_all
 · rw [UA h,UA h]
theorem ZgS (a b:Cnt):AFg prog 139 [.agg (RS a), .agg (RS b)] (· =Zf (ZS a.name b.name)):=by
 refine AFg.of_body 10 func139 rfl ntmps139 (Xa rfl) ?_
 intro w0 M0 vs hl hv
 obtain ⟨v0,v1,rfl⟩:=W7 hl
 clear hl hv
 refine Zd ?_
 (refine Yi 2 2 fun h2=>?_<;>refine Yi 3 2 fun h3=>?_<;>refine xL 4 Zb ?_<;>refine Zi ?_)
 (refine xL 5 (Zn 2 Kn) ?_<;>(refine yL 6 (Zr 2 ZP) fun v6 h=>?_;cases h)<;>refine xL 7 (Zn 3 Kn) ?_<;>(refine yL 8 (Zr 3 ZP) fun v8 h=>?_;cases h)<;>(refine cS 9 (cA call137 (TU a.name b.name)) fun v9 h=>?_;cases h)<;>refine xL 4 Zb ?_<;>refine Zc ?_)
 exact Zl results139 rfl rfl
theorem ZcF:AggT prog 169 2=true:=by kernel_rfl
theorem ZeC:ZbV prog 138 139 2:=fun enc hk h1 cf hO blk cap d w hcmp hH hblk hsz=>
 AnyQ.slices_SortFunc Tryz.sortCntL 2 (fun w=>AggT.run ZcF w) (fun w=>AggT.size ZcF w) enc hk h1 cf hO 139 #[] blk 0 cap d w (call139) hcmp hH hblk hsz
theorem Zbg (caps:List PV):AF prog 138 [.sl 0 [], .fn 139 caps] (· = .val (.tuple #[])):=fun M w vs hM hlen hv=>by
 obtain ⟨v,fv,rfl⟩:=W7 hlen
 have hS:=hv 0 v _ rfl rfl
 cases hS with
 | emp a c hc ha=>
   refine (AnyF.slices_SortFunc_none Tryz.sortCntL a c fv w).mono fun e w' ⟨h1,h2⟩=>?_;rw [h1,h2];exact ⟨_,_,fun _=>False,rfl,rfl,Ext.rfl' _, .shr (.val _) (fun _ h=>h),fun b hb=>hb.elim,fun h=>h.elim⟩
 | sl b off n c cs vs' hnc hc hcell hT=>
   refine (AnyF.slices_SortFunc_none Tryz.sortCntL _ c fv w).mono fun e w' ⟨h1,h2⟩=>?_;rw [h1,h2];exact ⟨_,_,fun _=>False,rfl,rfl,Ext.rfl' _, .shr (.val _) (fun _ h=>h),fun b hb=>hb.elim,fun h=>h.elim⟩
theorem ZcG {es:Array MapEntry} {seen:Array Nat} {e:MapEntry} {clock:Nat} (hW:WfM es clock) (he:e∈(leftOf es seen).toList):(leftOf es (seen.push e.born)).size<(leftOf es seen).size:=by
 have h:=(R4 hW he).length_eq
 rw [Xg,S2,S2] at h
 omega
theorem ZcH {es:Array MapEntry} {seen:Array Nat} {e:MapEntry} (he:e∈(leftOf es seen).toList):(e.key,e.val)∈kvOf es:=Xr.2 ⟨e,O6 he,rfl⟩
theorem ζT {α:Type} {f:α→List PV} {L:List α} {c:α} {ps:List PV} (h:ps=f c):L.flatMap f++ps=(L++[c]).flatMap f:=by
 rw [Va,h];simp
set_option maxHeartbeats 1000000 in
theorem Gz (m:List (ByteArray×Int)) (hn:(m.map (·.1)).Nodup) (hl:m.length≤1000000):AF prog 100 [.smap (skv (Wq m))] (fun p=>∃L,SameC L m∧p= .own 169 2 L.length (L.flatMap RS)):=by
 refine AF.of_body 22 func100 rfl ntmps100 (Xa rfl) ?_
 intro w0 M0 vs hl hv
 obtain ⟨v0,rfl⟩:=YG hl
 clear hl hv
 refine Zd ?_
 (refine xL 2 Zb ?_<;>refine Zi ?_)
 (refine xL 3 Zb ?_<;>refine Zi ?_)
 (refine xL 6 Za ?_<;>refine C0 7 underlying78 (fun b7 r7 c7 es7 hkv7 hWf7=>?_)<;>refine Zc ?_)
 refine ZE (W3 200 169 2 rfl) fun _=>?_
 refine Zy (ι:={x:Value×Array Nat×List Cnt//x.1.oneCell'=true∧(x.2.2=[]→x.1= .slice none 0 0)∧(x.2.2++(kvOf (leftOf es7 x.2.1)).map Zj2).Perm (m.map mkC)}) (fun k=>⟨[(7,_,_),(3,k.1.1, .val k.1.1)],[(7,itv r7,itP b7 r7 c7 es7 k.1.2.1),(200,k.1.1, .own 169 2 k.1.2.2.length (k.1.2.2.flatMap RS))]⟩) (fun k=>(leftOf es7 k.1.2.1).size) ⟨(.slice none 0 0,#[],[]),rfl,fun _=>rfl,by rw [C1,←hkv7,Ziq];exact .refl _⟩ (fun a w H=>H.weaken ⟨rfl,rfl,trivial⟩ ⟨rfl,rfl,trivial⟩) ?_
 rintro ⟨⟨hov,seen,L⟩,ho,hnil,hp⟩
 dsimp only
 dsimp only at ho hnil hp
 have hLl:L.length≤1000000:=by
  have:=hp.length_eq;rw [Xf,Xd (f:=mkC)] at this;omega
 have hLm:(L.flatMap RS).length=L.length*2:=Yr Kf L
 refine Zd ?_
 (refine ZbY 7 8 hWf7 (fun hlf7=>?_) (fun e7 hle7=>?_)<;>refine xL 9 Zp ?_<;>refine Zc ?_)<;>(
 refine cX ?_ ?_<;>intro hb9
 · first|exact bN hb9|(
 refine Zd ?_;(refine xL 10 (ZbZ 7 hWf7 (O6 hle7)) ?_<;>refine xL 11 Zp (xL 12 Zp (xL 4 Zb (xL 5 Zb ?_)))<;>refine Zc ?_)
 obtain ⟨s,n,hmem,hks,hvs⟩:=Zir (hkv7▸ZcH hle7);dsimp only at hks hvs;rw [hks,hvs];(refine Zo ?_<;>refine xL 13 Za (xL 14 Za (xL 15 Za (xL 16 (ZO Zbe) ?_)))<;>refine Ju 17 El fun h17 ho17=>?_<;>refine Kd 200 17 18 El fun h18 ho18=>?_<;>refine xL 3 Zb ?_<;>refine Zc ?_)
 refine Yh (Z5 (l:=18) 200 rfl rfl) fun _=>?_;rw [ζT (f:=RS) (L:=L) (c:=(⟨s,n⟩:Cnt)) (by rfl),show L.length+1=(L++[(⟨s,n⟩:Cnt)]).length by simp];refine Zh (
  ⟨(h18,seen.push e7.born,L++[⟨s,n⟩]),ho18,fun h=>UC h sM,by
    refine .trans ?_ hp;have h1:=(R4 hWf7 hle7).map Zj2;rw [Xk,hks,hvs] at h1;show (L++[_]++_).Perm _;rw [XM];exact h1.symm.append_left L⟩
  ) (ZcG hWf7 hle7) ⟨rfl,rfl,trivial⟩ ⟨rfl,rfl,trivial⟩)
 · first |exact bN hb9|(
 refine nav ?_;have hp0:L.Perm (m.map mkC):=by
  rw [hlf7] at hp;have h1:kvOf (#[]:Array MapEntry)=[]:=rfl;rw [h1,Vi,Xu] at hp;exact hp
 (refine Zo ?_<;>refine xL 19 Za ?_<;>(by_cases hL:L=[]<;>first|(subst hL;obtain rfl:=hnil rfl;refine ZJ (En.freeze (l:=200) (t:=19) rfl rfl) fun _=>?_;refine cS 20 (cA call138 (Zbg [])) fun v20 h=>?_;cases h)|(refine EL (l:=200) (β:=Cnt) (f:=RS) (cmp:=fun a b=>ZS a.name b.name) (rows:=L) ZeC (fun _=>rfl) dC (fun _=>rfl) (fun a=>Zbd _) (fun a b c=>ZeA) (fun a b c=>ZeB) (fun x y M W u v _ _ hu hv=>(ZgS x y).exact2 hu hv) (Vc.2 hL) oM rfl rfl (Xa rfl) rfl (call138) rfl rfl rfl (fun rows' hperm hord=>?_)))<;>refine Zc ?_)<;>(
 (refine Zo ?_<;>refine xL 21 Za (xL 2 Zb ?_)<;>refine Zc ?_)
 first
  |exact T2 200 (results100) rfl rfl ⟨rows',ζR hn hp0 hperm hord,by rw [hperm.length_eq]⟩
  | (refine YP (W3 201 169 2 rfl) fun _=>?_
     exact T2 201 (results100) rfl rfl ⟨[],ζR hn hp0 (.refl _) (fun i j a b _ h=>by simp at h),rfl⟩))))
structure M4 where
 a:List (ByteArray×Int)
 s:List (ByteArray×Int)
 f:List (ByteArray×Int)
 q:List (Pr×Int)
def W9:List ByteArray→List Pr
 |a::b::l=>(a,b)::W9 (b::l)
 |_=>[]
section
variable {κ:Type} [DecidableEq κ]
def addAll (m:List (κ×Int)) (ks:List κ) (c:Int):List (κ×Int):=ks.foldl (fun m k=>Zex m k c) m
theorem P1 (m:List (κ×Int)) (ks:List κ) (k:κ) (c:Int):addAll m (ks++[k]) c=Zex (addAll m ks c) k c:=by
 unfold addAll;rw [Ut];rfl
structure MOk (m:List (κ×Int)) (b:Nat):Prop where
 nd:(m.map (·.1)).Nodup
 len:m.length≤b
 bd:∀x∈m,0≤x.2∧x.2≤b*1048576
theorem MOk.nil:MOk ([]:List (κ×Int)) 0:=⟨List.nodup_nil,Xc _,fun x h=>by simp at h⟩
theorem MOk.mono {m:List (κ×Int)} {b b':Nat} (h:MOk m b) (hb:b≤b'):MOk m b':=⟨h.nd,XG h.len hb,fun x hx=>by
 have:=h.bd x hx
 have h2:(b:Int)*1048576≤b'*1048576:=oM
 omega⟩
theorem MOk.get {m:List (κ×Int)} {b:Nat} (h:MOk m b) (k:κ):0≤iget m k∧iget m k≤b*1048576:=by
 have key:∀(m:List (κ×Int)),(∀x∈m,0≤x.2∧x.2≤(b:Int)*1048576)→0≤iget m k∧iget m k≤b*1048576:=fun m=>by
  induction m with
  |nil=>intro _;rw [iget];omega
  | cons x m ih=>
    intro h;rw [iget];split
    · exact h x sM
    · exact ih fun y hy=>h y (by simp [hy])
 exact key m h.bd
theorem ζU {m:List (κ×Int)} {k:κ} {v:Int} {x:κ×Int} (h:x∈G3 m k v):x=(k,v)∨x∈m:=by
 induction m with
 |nil=>rw [G3,XB] at h;exact .inl h
 | cons y m ih=>
   rw [G3] at h;split at h
   · rcases Xi.1 h with h|h
     · exact .inl h
     · exact .inr (by simp [h])
   · rcases Xi.1 h with h|h
     · exact .inr (by simp [h])
     · rcases ih h with h|h
       · exact .inl h
       · exact .inr (by simp [h])
theorem MOk.add {m:List (κ×Int)} {b:Nat} (h:MOk m b) {k:κ} {n:Int} (h0:0≤n) (h1:n≤1048576):MOk (Zex m k n) (b+1):=by
 refine ⟨Zbc h.nd,XG (ZgR _ _ _) (Nat.succ_le_succ h.len),fun x hx=>?_⟩
 rcases ζU hx with rfl|hx
 · have:=h.get k;dsimp only;omega
 · have:=h.bd x hx;omega
theorem MOk.addAll {n:Int} (h0:0≤n) (h1:n≤1048576):∀{ks:List κ} {b:Nat} {m:List (κ×Int)},MOk m b→MOk (addAll m ks n) (b+ks.length)
 |[],b,m,h=>h
 | k::ks,b,m,h=>by
   have:=MOk.addAll h0 h1 (ks:=ks) (h.add (k:=k) h0 h1);rw [Xg,show b+(ks.length+1)=b+1+ks.length by omega];exact this
theorem ZeD {m:List (κ×Int)} {k:κ} {n:Int} {p:κ→Prop} (h:∀x∈m,p x.1) (hk:p k):∀x∈Zex m k n,p x.1:=fun x hx=>by
 rcases ζU hx with rfl|hx
 · exact hk
 · exact h x hx
theorem TV {c:Int} {p:κ→Prop}:∀{ks:List κ} {m:List (κ×Int)},(∀x∈m,p x.1)→(∀k∈ks,p k)→∀x∈addAll m ks c,p x.1
 |[],m,h,_=>h
 |k::ks,m,h,hk=>TV (ks:=ks) (ZeD h (hk k sM)) fun y hy=>hk y (by simp [hy])
end
def mk1 (st:M4) (x:Var):M4:=⟨addAll st.a x.acts x.count,(match x.acts with|[]=>st.s|s::_=>Zex st.s s x.count),(match x.acts.getLast? with|some s=>Zex st.f s x.count|none=>st.f),addAll st.q (W9 x.acts) x.count⟩
def makeM (l:List Var):M4:=l.foldl mk1 ⟨[],[],[],[]⟩
theorem DO {l:List Var} {k:Nat} {x:Var} (h:l[k]? =some x):makeM (l.take (k+1))=mk1 (makeM (l.take k)) x:=by
 unfold makeM;rw [ZW h,Ut];rfl
theorem Po:∀l:List ByteArray,(W9 l).length≤l.length
 |[]=>Xc _
 |[a]=>Xn _
 |a::b::l=>by rw [W9,Xg,Xg];have:=Po (b::l);omega
theorem Pq:∀{l:List ByteArray} {p:Pr},p∈W9 l→p.1∈l∧p.2∈l
 |[],p,h=>by simp [W9] at h
 |[a],p,h=>by simp [W9] at h
 | a ::b::l,p,h=>by
   rw [W9] at h;rcases Xi.1 h with rfl|h
   · exact ⟨sM,sM⟩
   · have:=Pq h;exact ⟨XS _ this.1,XS _ this.2⟩
theorem DR:∀(l:List ByteArray) (a b:ByteArray),W9 (l++[a]++[b])=W9 (l++[a])++[(a,b)]
 |[],a,b=>rfl
 |[x],a,b=>rfl
 | x::y::l,a,b=>by
   show (x,y)::W9 (y::l++[a]++[b])=(x,y)::W9 (y::l++[a])++[(a,b)];rw [DR (y::l) a b];rfl
theorem Zbh {w:List ByteArray} {j:Nat} {a b:ByteArray} (ha:w[j]? =some a) (hb:w[j+1]? =some b):W9 (w.take (j+1+1))=W9 (w.take (j+1))++[(a,b)]:=by
 rw [ZW hb,ZW ha];exact DR _ _ _
theorem ZeE {w:List ByteArray} {b:ByteArray} (hb:w[0]? =some b):W9 (w.take (0+1))=[]:=by
 rw [ZW hb];rfl
theorem Lh {s:ByteArray} (h:isName s=true):s.size≤40:=by
 unfold isName at h
 simp only [Xe,Ux,Xj] at h
 exact h.1.1.2
structure KOk (st:M4) (b:Nat):Prop where
 a:MOk st.a b
 s:MOk st.s b
 f:MOk st.f b
 q:MOk st.q b
 k:∀x∈st.q,prOk x.1
theorem KOk.step {st:M4} {b:Nat} {x:Var} (h:KOk st b) (hx:WT x=true):KOk (mk1 st x) (b+200):=by
 unfold WT at hx
 simp only [Xe,Ux,Xj] at hx
 obtain ⟨⟨⟨h1,h2⟩,h3⟩,h4⟩:=hx
 have hp:=Po x.acts
 refine ⟨(h.a.addAll oM h4).mono oM,?_,?_,(h.q.addAll oM h4).mono oM,TV h.k fun k hk=>?_⟩
 · unfold mk1;dsimp only;split
   · exact h.s.mono oM
   · exact (h.s.add oM h4).mono oM
 · unfold mk1;dsimp only;split
   · exact (h.f.add oM h4).mono oM
   · exact h.f.mono oM
 · have:=Pq hk;have n1:=Lh (h2 _ this.1);have n2:=Lh (h2 _ this.2);exact ⟨oM,oM⟩
theorem KOk.all {l:List Var} (hl:∀x∈l,WT x=true):∀k,k≤l.length→KOk (makeM (l.take k)) (k*200)
 |0,_=>⟨MOk.nil,MOk.nil,MOk.nil,MOk.nil,fun x h=>by simp [makeM] at h⟩
 | k+1,hk=>by
   obtain ⟨x,hx⟩:=Zm (show k<l.length by omega);rw [DO hx,XW];exact (KOk.all hl k oM).step (hl x (Xb hx))
end Go.Proofs.YtmkojdfiadbeeaaGreat
namespace Go.En
open Go.RowKit Go.Cb
theorem ZgT {sL hP:List (Nat×Ent)} {t:Nat} {vs:List Value} {q:PV} (ht:lk sL t=some (.agg vs.toArray,q)):J4 (⟨sL,hP⟩:St) (fun _:Unit=>⟨put t (.agg vs.toArray, .agg (vs.map .val)) sL,hP⟩):=fun c a w ⟨F,H⟩=>by
 refine ⟨(),F,H.toHeapF,fun s u r hs=>?_,H.size,H.df⟩
 rcases Z2 hs with ⟨rfl,e⟩|⟨_,e⟩
 · cases e;refine ⟨(H.sl _ _ _ ht).1, .agg _ _ (by rw [Xd]) fun i v p hv hp=>?_⟩;rw [Xm,hv] at hp
   cases hp;exact .val _
 · exact H.sl s u r e
end Go.En
namespace Go.Proofs.YtmkojdfiadbeeaaGreat
open Go.RowKit Go.Cb Go.En Tryz
set_option linter.all false
set_option maxRecDepth 100000
theorem Ps:ArrT prog 82 2=true:=by kernel_rfl
theorem Em:ElT prog 32 136 3 40 (.agg #[(.string ByteArray.empty),(.string ByteArray.empty),(.int .i64 0)]):=⟨underlying32,by kernel_rfl,rfl,dC⟩
theorem TW:FldT prog 81 0 0=true:=by kernel_rfl
theorem P2:FldT prog 81 1 1=true:=by kernel_rfl
theorem P3:FldT prog 81 2 2=true:=by kernel_rfl
theorem P4:FldT prog 81 3 3=true:=by kernel_rfl
theorem JY:NoAgg prog 78=true:=by kernel_rfl
theorem Eo:NoAgg prog 79=true:=by kernel_rfl
theorem Zbi:K6 prog 136=some ((.agg #[(.string ByteArray.empty),(.string ByteArray.empty),(.int .i64 0)]),([0,1,2]:List Nat).map fun o=>(o,1)):=by kernel_rfl
theorem GJ:K6 prog 34=some ((.agg #[(.slice none 0 0),(.slice none 0 0),(.slice none 0 0),(.slice none 0 0)]),([0,1,2,3]:List Nat).map fun o=>(o,1)):=by kernel_rfl
theorem ZeF:K6 prog 81=some ((.agg #[(.map none),(.map none),(.map none),(.map none)]),([0,1,2,3]:List Nat).map fun o=>(o,1)):=by kernel_rfl
theorem ZeG:(prog.info? 32).map (·.size)=some 1:=by kernel_rfl
theorem JZ:ZeroT prog 34 (.agg #[(.slice none 0 0),(.slice none 0 0),(.slice none 0 0),(.slice none 0 0)]):=by unfold ZeroT;kernel_rfl
theorem Ep:ZeroT prog 82 (.agg #[(.string ByteArray.empty),(.string ByteArray.empty)]):=by unfold ZeroT;kernel_rfl
theorem Hj:AF prog 44 [] (· = .obox 81 4 [.omap [], .omap [], .omap [], .omap []]):=by
 refine AF.of_body 7 func44 rfl ntmps44 (Xa rfl) ?_
 intro w0 M0 vs hl hv
 obtain rfl:=Xw hl
 clear hl hv
 refine Zd ?_
 (refine xL 0 Zb ?_<;>refine Zi ?_)
 (refine G7 1 fun h1 ho1=>?_<;>refine G7 2 fun h2 ho2=>?_<;>refine G7 3 fun h3 ho3=>?_<;>refine G7 4 fun h4 ho4=>?_<;>refine xL 5 (ZO ZeF) ?_<;>refine Yi 6 4 fun h6=>?_<;>refine xL 0 Zb ?_<;>refine Zc ?_)
 refine YP (J5 (l:=6) (l':=1) (j:=0) rfl rfl rfl rfl) fun _=>?_
 refine YP (J5 (l:=6) (l':=2) (j:=1) rfl rfl rfl rfl) fun _=>?_
 refine YP (J5 (l:=6) (l':=3) (j:=2) rfl rfl rfl rfl) fun _=>?_
 refine YP (J5 (l:=6) (l':=4) (j:=3) rfl rfl rfl rfl) fun _=>?_
 exact ZfE 6 (results44) rfl rfl rfl
theorem ZcI:AggT prog 136 3=true:=by kernel_rfl
theorem Zj4:AggT prog 82 2=true:=by kernel_rfl
theorem ZeH:ZbV prog 101 102 3:=fun enc hk h1 cf hO blk cap d w hcmp hH hblk hsz=>
 AnyQ.slices_SortFunc Tryz.sortFlwL 3 (fun w=>AggT.run ZcI w) (fun w=>AggT.size ZcI w) enc hk h1 cf hO 102 #[] blk 0 cap d w (call102) hcmp hH hblk hsz
theorem Zbj (caps:List PV):AF prog 101 [.sl 0 [], .fn 102 caps] (· = .val (.tuple #[])):=fun M w vs hM hlen hv=>by
 obtain ⟨v,fv,rfl⟩:=W7 hlen
 have hS:=hv 0 v _ rfl rfl
 cases hS with
 | emp a c hc ha=>
   refine (AnyF.slices_SortFunc_none Tryz.sortFlwL a c fv w).mono fun e w' ⟨h1,h2⟩=>?_;rw [h1,h2];exact ⟨_,_,fun _=>False,rfl,rfl,Ext.rfl' _, .shr (.val _) (fun _ h=>h),fun b hb=>hb.elim,fun h=>h.elim⟩
 | sl b off n c cs vs' hnc hc hcell hT=>
   refine (AnyF.slices_SortFunc_none Tryz.sortFlwL _ c fv w).mono fun e w' ⟨h1,h2⟩=>?_;rw [h1,h2];exact ⟨_,_,fun _=>False,rfl,rfl,Ext.rfl' _, .shr (.val _) (fun _ h=>h),fun b hb=>hb.elim,fun h=>h.elim⟩
theorem W2 (e n:Nat) (l:List Cnt) (hn:n=l.length):share (.own e 2 n (l.flatMap RS))=JI l:=by
 subst hn
 rw [share,Z7,Uq];rfl
theorem DT (e n:Nat) (l:List Flw) (hn:n=l.length):share (.own e 3 n (l.flatMap RU))=ZbU l:=by
 subst hn
 rw [share,Z7,Uq];rfl
def Er (g:Dfg) (st:M4):Prop:=SameC g.acts st.a∧SameC g.starts st.s∧SameC g.ends st.f∧SameF g.follows st.q
set_option maxHeartbeats 2000000 in
theorem ZgU (st:M4) (b:Nat) (hb:b≤1000000) (hk:KOk st b):AF prog 45 [.sptr 0 [.smap (skv (Wq st.a)), .smap (skv (Wq st.s)), .smap (skv (Wq st.f)), .smap (akv (Wq st.q))]] (fun p=>∃g,Er g st∧p=KZ g):=by
 have l1:=hk.a.len
 have l2:=hk.s.len
 have l3:=hk.f.len
 have l4:=hk.q.len
 refine AF.of_body 47 func45 rfl ntmps45 (Xa rfl) ?_
 intro w0 M0 vs hl hv
 obtain ⟨v0,rfl⟩:=YG hl
 clear hl hv
 refine Zd ?_
 (refine ZA [(.slice none 0 0),(.slice none 0 0),(.slice none 0 0),(.slice none 0 0)] 4 2 JZ fun h2=>?_<;>refine Zc ?_)
 (refine ZM (fun i=>([17]:List Nat).elem i) [] kR ?_<;>refine xD 0 6 rfl Za ?_<;>refine xD 1 7 rfl Y0 ?_<;>refine xD 2 8 rfl (YN TW) ?_<;>(refine yD 3 9 rfl (ZN JY) fun v9 h=>?_;cases h)<;>refine xD 5 11 rfl Za ?_<;>refine xD 6 12 rfl Y0 ?_<;>refine xD 7 13 rfl (YN P2) ?_<;>(refine yD 8 14 rfl (ZN JY) fun v14 h=>?_;cases h)<;>refine xD 10 16 rfl Za ?_<;>refine xD 11 17 rfl Y0 ?_<;>refine xD 12 18 rfl (YN P3) ?_<;>(refine yD 13 19 rfl (ZN JY) fun v19 h=>?_;cases h)<;>(refine YU 4 16 kR ?_ ?_;rotate_right;(focus ((refine Zg rfl fun w9 M9 N9 DQ back=>?_)<;>refine ZA [(.slice none 0 0),(.slice none 0 0),(.slice none 0 0),(.slice none 0 0)] 4 3 JZ fun h3=>?_<;>refine Ze (back _ (nrm ?_))<;>(refine Zk 4 kR ?_)<;>(refine Zg rfl fun w9 M9 N9 DQ back=>?_)<;>(refine GN 10 rfl rfl (Xa rfl) rfl (cA call100 (Gz st.a hk.a.nd oM)) ?_;rintro p' ⟨La,hLa,rfl⟩;refine ⟨rfl,fun h10 ho10=>?_⟩;refine ZJ (En.freeze (l:=10) (t:=10) rfl rfl) fun _=>?_;rw [W2 _ _ _ rfl])<;>refine Ze (back _ (nrm ?_))<;>(refine Zk 9 kR ?_)<;>(refine Zg rfl fun w9 M9 N9 DQ back=>?_)<;>(refine GN 15 rfl rfl (Xa rfl) rfl (cA call100 (Gz st.s hk.s.nd oM)) ?_;rintro p' ⟨Ls,hLs,rfl⟩;refine ⟨rfl,fun h15 ho15=>?_⟩;refine ZJ (En.freeze (l:=15) (t:=15) rfl rfl) fun _=>?_;rw [W2 _ _ _ rfl])<;>refine Ze (back _ (nrm ?_))<;>(refine Zk 14 kR ?_)<;>(refine Zg rfl fun w9 M9 N9 DQ back=>?_)<;>(refine GN 20 rfl rfl (Xa rfl) rfl (cA call100 (Gz st.f hk.f.nd oM)) ?_;rintro p' ⟨Lf,hLf,rfl⟩;refine ⟨rfl,fun h20 ho20=>?_⟩;refine ZJ (En.freeze (l:=20) (t:=20) rfl rfl) fun _=>?_;rw [W2 _ _ _ rfl])<;>refine Ze (back _ (nrm ?_))<;>refine xE 15 21 rfl (ZO GJ) ?_));rotate_right;(focus ((refine Zg rfl fun w9 M9 N9 DQ back=>?_)<;>(refine GN 10 rfl rfl (Xa rfl) rfl (cA call100 (Gz st.a hk.a.nd oM)) ?_;rintro p' ⟨La,hLa,rfl⟩;refine ⟨rfl,fun h10 ho10=>?_⟩;refine ZJ (En.freeze (l:=10) (t:=10) rfl rfl) fun _=>?_;rw [W2 _ _ _ rfl])<;>refine Ze (back _ (nrm ?_))<;>(refine YU 9 16 kR ?_ ?_;rotate_right;(focus ((refine Zg rfl fun w9 M9 N9 DQ back=>?_)<;>refine ZA [(.slice none 0 0),(.slice none 0 0),(.slice none 0 0),(.slice none 0 0)] 4 3 JZ fun h3=>?_<;>refine Ze (back _ (nrm ?_))<;>(refine Zk 9 kR ?_)<;>(refine Zg rfl fun w9 M9 N9 DQ back=>?_)<;>(refine GN 15 rfl rfl (Xa rfl) rfl (cA call100 (Gz st.s hk.s.nd oM)) ?_;rintro p' ⟨Ls,hLs,rfl⟩;refine ⟨rfl,fun h15 ho15=>?_⟩;refine ZJ (En.freeze (l:=15) (t:=15) rfl rfl) fun _=>?_;rw [W2 _ _ _ rfl])<;>refine Ze (back _ (nrm ?_))<;>(refine Zk 14 kR ?_)<;>(refine Zg rfl fun w9 M9 N9 DQ back=>?_)<;>(refine GN 20 rfl rfl (Xa rfl) rfl (cA call100 (Gz st.f hk.f.nd oM)) ?_;rintro p' ⟨Lf,hLf,rfl⟩;refine ⟨rfl,fun h20 ho20=>?_⟩;refine ZJ (En.freeze (l:=20) (t:=20) rfl rfl) fun _=>?_;rw [W2 _ _ _ rfl])<;>refine Ze (back _ (nrm ?_))<;>refine xE 15 21 rfl (ZO GJ) ?_));rotate_right;(focus ((refine Zg rfl fun w9 M9 N9 DQ back=>?_)<;>(refine GN 15 rfl rfl (Xa rfl) rfl (cA call100 (Gz st.s hk.s.nd oM)) ?_;rintro p' ⟨Ls,hLs,rfl⟩;refine ⟨rfl,fun h15 ho15=>?_⟩;refine ZJ (En.freeze (l:=15) (t:=15) rfl rfl) fun _=>?_;rw [W2 _ _ _ rfl])<;>refine Ze (back _ (nrm ?_))<;>(refine YU 14 16 kR ?_ ?_;rotate_right;(focus ((refine Zg rfl fun w9 M9 N9 DQ back=>?_)<;>refine ZA [(.slice none 0 0),(.slice none 0 0),(.slice none 0 0),(.slice none 0 0)] 4 3 JZ fun h3=>?_<;>refine Ze (back _ (nrm ?_))<;>(refine Zk 14 kR ?_)<;>(refine Zg rfl fun w9 M9 N9 DQ back=>?_)<;>(refine GN 20 rfl rfl (Xa rfl) rfl (cA call100 (Gz st.f hk.f.nd oM)) ?_;rintro p' ⟨Lf,hLf,rfl⟩;refine ⟨rfl,fun h20 ho20=>?_⟩;refine ZJ (En.freeze (l:=20) (t:=20) rfl rfl) fun _=>?_;rw [W2 _ _ _ rfl])<;>refine Ze (back _ (nrm ?_))<;>refine xE 15 21 rfl (ZO GJ) ?_));rotate_right;(focus ((refine Zg rfl fun w9 M9 N9 DQ back=>?_)<;>(refine GN 20 rfl rfl (Xa rfl) rfl (cA call100 (Gz st.f hk.f.nd oM)) ?_;rintro p' ⟨Lf,hLf,rfl⟩;refine ⟨rfl,fun h20 ho20=>?_⟩;refine ZJ (En.freeze (l:=20) (t:=20) rfl rfl) fun _=>?_;rw [W2 _ _ _ rfl])<;>refine Ze (back _ (nrm ?_))<;>refine xD 15 21 rfl (ZO GJ) ?_<;>(refine Zk 16 kR ?_)<;>(refine Zg rfl fun w9 M9 N9 DQ back=>?_)<;>refine ZA [(.slice none 0 0),(.slice none 0 0),(.slice none 0 0),(.slice none 0 0)] 4 3 JZ fun h3=>?_<;>refine Ze (back _ (nrm ?_)))))))))))<;>(refine Zk 17 kR ?_)<;>(refine W8 rfl rfl kR fun DQ back=>?_)<;>refine Zw 3 YA ?_<;>refine Ze (back _ (nav ?_))<;>try dsimp only)<;>(
 (refine Zo ?_<;>refine xL 22 Za (xL 23 Y0 (xL 24 (YN P4) ?_))<;>(refine yL 25 (ZN Eo) fun v25 h=>?_;cases h)<;>refine C0 26 underlying79 (fun b26 r26 c26 es26 hkv26 hWf26=>?_)<;>refine Zc ?_)
 refine ZE (W3 200 136 3 rfl) fun _=>?_;refine Zy (ι:={x:Value×Array Nat×List Flw//x.1.oneCell'=true∧(x.2.2=[]→x.1= .slice none 0 0)∧(x.2.2++(kvOf (leftOf es26 x.2.1)).map Zj3).Perm (st.q.map mkF)}) (fun k=>⟨[(2,_,_),(3,_,_),(26,_,_)],[(2,_,_),(3,h3, .own 34 4 1 [JI La,JI Ls,JI Lf, .val k.1.1]),(26,itv r26,itP b26 r26 c26 es26 k.1.2.1),(200,k.1.1, .own 136 3 k.1.2.2.length (k.1.2.2.flatMap RU))]⟩) (fun k=>(leftOf es26 k.1.2.1).size) ⟨(.slice none 0 0,#[],[]),rfl,fun _=>rfl,by rw [C1,←hkv26,Zis];exact .refl _⟩ (fun a w H=>H.weaken ⟨rfl,rfl,rfl,trivial⟩ ⟨rfl,rfl,rfl,rfl,trivial⟩) ?_;rintro ⟨⟨hov,seen,L⟩,ho,hnil,hp⟩;dsimp only;dsimp only at ho hnil hp;have hLl:L.length≤1000000:=by
  have:=hp.length_eq;rw [Xf,Xd (f:=mkF)] at this;omega
 have hLm:(L.flatMap RU).length=L.length*3:=Yr GV L;refine Zd ?_;(refine ZbY 26 27 hWf26 (fun hlf26=>?_) (fun e26 hle26=>?_)<;>refine xL 28 Zp ?_<;>refine Zc ?_)<;>(
 refine cX ?_ ?_<;>intro hb28
 · first|exact bN hb28|(
 refine nav ?_;obtain ⟨kk,n,hmem,hks,hvs⟩:=Zit (hkv26▸ZcH hle26);dsimp only at hks hvs;(refine Zo ?_<;>refine xL 29 (ZbZ 26 hWf26 (O6 hle26)) ?_<;>refine xL 30 Zp (xL 31 Zp ?_)<;>refine ZA [(.string ByteArray.empty),(.string ByteArray.empty)] 2 4 Ep fun h4=>?_<;>(rw [hks];refine ZJ (ZgT (t:=30) (vs:=[.string kk.1, .string kk.2]) rfl) fun _=>?_;refine Zw 4 Zj4 ?_)<;>refine xL 5 Zb ?_<;>refine Zc ?_)
 rw [hvs];(refine Zo ?_<;>refine xL 32 (Zn 3 Jh) ?_<;>(refine yL 33 (Zr 3 GF) fun v33 h=>?_;cases h)<;>refine xL 34 (Zfz 4 Ps) ?_<;>(refine yL 35 (Zr 4 ZP) fun v35 h=>?_;cases h)<;>refine xL 36 (Zfz 4 Ps) ?_<;>(refine yL 37 (Zr 4 ZP) fun v37 h=>?_;cases h)<;>refine xL 38 Za (xL 39 (ZO Zbi) ?_)<;>refine Ju 40 Em fun h40 ho40=>?_<;>refine Kd 200 40 41 Em fun h41 ho41=>?_<;>refine xL 42 (Zn 3 Jh) ?_<;>refine P5 3 GF ZeG ?_<;>refine Zc ?_)
 refine Yh (Z5 (l:=41) 200 rfl rfl) fun _=>?_;rw [ζT (f:=RU) (L:=L) (c:=(⟨kk.1,kk.2,n⟩:Flw)) (by rfl),show L.length+1=(L++[(⟨kk.1,kk.2,n⟩:Flw)]).length by simp];refine Zh (
  ⟨(h41,seen.push e26.born,L++[⟨kk.1,kk.2,n⟩]),ho41,fun h=>UC h sM,by
    refine .trans ?_ hp;have h1:=(R4 hWf26 hle26).map Zj3;rw [Xk,hks,hvs] at h1;show (L++[_]++_).Perm _;rw [XM];exact h1.symm.append_left L⟩
  ) (ZcG hWf26 hle26) ⟨rfl,rfl,rfl,trivial⟩ ⟨rfl,rfl,rfl,rfl,trivial⟩)
 · first|exact bN hb28|(
 refine nav ?_;have hp0:L.Perm (st.q.map mkF):=by
  rw [hlf26] at hp;have h1:kvOf (#[]:Array MapEntry)=[]:=rfl;rw [h1,Vi,Xu] at hp;exact hp
 (refine Zo ?_<;>refine xL 43 (Zn 3 Jh) ?_<;>(refine yL 44 (Zr 3 GF) fun v44 h=>?_;cases h)<;>(by_cases hL:L=[]<;>first|(subst hL;obtain rfl:=hnil rfl;refine ZJ (En.freeze (l:=200) (t:=44) rfl rfl) fun _=>?_;refine cS 45 (cA call101 (Zbj [])) fun v45 hv45=>?_;cases hv45;refine ZJ (W3 201 136 3 rfl) fun _=>?_;refine ZJ (KA (l:=3) (l':=201) (j:=3) rfl rfl rfl rfl) fun _=>?_;rw [show share (.own 136 3 0 [])=ZbU [] from DT _ 0 [] rfl];have hF:SameF [] st.q:=ζS hk.q.nd hp0 (.refl _) (fun i j a b _ h=>by simp at h))|(refine EL (l:=200) (β:=Flw) (f:=RU) (cmp:=WG) (rows:=L) ZeH (fun _=>rfl) dC (fun _=>rfl) (fun a=>J2 a) (fun a b c=>JF) (fun a b c=>Zez) (fun x y M W u v _ _ hu hv=>(Zbf x y).exact2 hu hv) (Vc.2 hL) oM rfl rfl (Xa rfl) rfl (call101) rfl rfl rfl (fun rows' hperm hord=>?_);refine ZJ (KA (l:=3) (l':=200) (j:=3) rfl rfl rfl rfl) fun _=>?_;rw [DT _ _ _ hperm.length_eq.symm];have hF:SameF rows' st.q:=ζS hk.q.nd hp0 hperm hord))<;>refine Zc ?_)<;>(
 (refine Zo ?_<;>(refine yL 46 (Zu 3 YA) fun v46 h=>?_;cases h)<;>refine Zw 2 YA ?_<;>refine Zc ?_)
 exact YK (k:=4) 2 kR (results45) rfl rfl (Xa rfl) dC rfl ⟨⟨La,Ls,Lf,_⟩,⟨hLa,hLs,hLf,hF⟩,rfl⟩))))
theorem Ziv {α:Type} {p:α→Bool} {l:List α}:(idx p l= -1∧∀s∈l,p s=false)∨∃i x,idx p l=(i:Nat)∧l[i]? =some x∧p x=true∧∀j y,j<i→l[j]? =some y→p y=false:=by
 unfold idx
 cases h:l.findIdx? p with
 |none=>exact .inl ⟨rfl,by rw [Uv] at h;exact h⟩
 | some i=>
   rw [VY] at h;obtain ⟨hi,hp,hn⟩:=h;exact .inr ⟨i,l[i],rfl,sM,hp,fun j y hj hy=>by
    have:=hn j hj;obtain ⟨hj',rfl⟩:=Xl.1 hy;simpa using this⟩
theorem ZgV (L:List Var):(L.flatMap Wn).all En.one=true:=by rw [List.all_flatMap,Xj];intro x _;rfl
theorem Zbk (e n:Nat) (l:List Var) (hn:n=l.length):share (.own e 2 n (l.flatMap Wn))=Z4 l:=by
 subst hn
 rw [share,Z7,Uq];rfl
theorem LS:ElT prog 22 28 2 32 (.agg #[(.slice none 0 0),(.int .i64 0)]):=⟨underlying22,by kernel_rfl,rfl,dC⟩
theorem DU (l:List Var) (hl:l.length≤1000000):AF prog 11 [Z4 l] (· = .own 28 2 l.length (l.flatMap Wn)):=by
 refine AF.of_body 8 func11 rfl ntmps11 (Xa rfl) ?_
 intro w0 M0 vs hl hv
 obtain ⟨v0,rfl⟩:=YG hl
 clear hl hv
 have f3:(l.flatMap Wn).length=l.length*2:=Yr Ys l
 have f4:(l.flatMap Wn).all En.one=true:=ZgV l
 refine Zd ?_
 (refine xL 2 Zb ?_<;>refine Zi ?_)
 (refine xL 3 Za ?_<;>(refine yL 4 (ZhS ZQ) fun v4 hv4=>?_;rcases hv4 with rfl|⟨rfl,hn0⟩)<;>refine Zc ?_)<;>(
 refine cX ?_ ?_<;>intro hb4
 · first|exact bN hb4|(
 refine Zd ?_;(refine xL 2 Zb ?_<;>refine Zc ?_)
 have hl0:l=[]:=Xw hn0;subst hl0;refine YP (W3 200 28 2 rfl) fun _=>?_;exact T2 200 (results11) rfl rfl rfl)
 · first|exact bN hb4|(
 refine Zd ?_;(refine Zjr 5 LS fun h5 ho5=>?_<;>refine xL 6 Za ?_<;>refine O4 5 7 LS (fun h7 ho7=>?_) f3 f4<;>refine xL 2 Zb ?_<;>refine Zc ?_)
 refine T2 7 (results11) rfl rfl ?_;rw [Xx,VO]))
structure Mv where
 src:Int
 dst:Int
 sym:Int
structure Aut where
 n:Int
 syms:Int
 start:List Int
 fin:List Int
 moves:List Mv
theorem SP:∀(n:Nat) (L:List Int),L.Nodup→(∀s∈L,0≤s∧s<n)→L.length≤n
 |0,[],_,_=>Xc _
 |0,x::_,_,h=>by have:=h x (XQ ..);omega
 | n +1,L,hn,h=>by
   have h1:=SP n (L.erase (n:Int)) (hn.erase _) fun s hs=>by
    have h2:=(hn.mem_erase_iff).1 hs;have h3:=h s h2.2;have:=h2.1;omega
   have h2:=List.length_erase (a:=(n:Int)) (l:=L);split at h2<;>omega
inductive Rch (a:Aut) (l:List Int):Int→Prop
 |base {s:Int} (h:s∈l):Rch a l s
 |step {s:Int} {m:Mv} (h:Rch a l s) (hm:m∈a.moves) (hs:m.src=s) (hc:m.sym= -1):Rch a l m.dst
def cntD (far:List Int):Nat:=far.countP fun d=>decide (0≤d)
structure FarOk (n:Nat) (far:List Int):Prop where
 len:far.length=n
 lo:∀d∈far,-1≤d
 hi:∀d∈far,d<cntD far
def InS (a:Aut) (S:List Int):Prop:=∀s∈S,0≤s∧s<a.n
theorem Ziw {α:Type} {p:α→Bool}:∀{l:List α},l.any p=true→∃(i:Nat) (x:α),idx p l=(i:Int)∧l[i]? =some x∧p x=true:=fun {l} h=>by
 rcases Ziv (p:=p) (l:=l) with ⟨_,h1⟩|⟨i,x,h1,h2,h3,_⟩
 · obtain ⟨x,hx,hp⟩:=Vs.1 h;rw [h1 x hx] at hp;cases hp
 · exact ⟨i,x,h1,h2,h3⟩
theorem ZeI {n:Nat} {l:List (Nat×Nat)} (hn:l.Nodup) (hl:∀p∈l,p.1<n∧p.2<n):l.length≤n*n:=by
 have h1:(l.map fun p=>((p.1*n+p.2:Nat):Int)).Nodup:=by
  refine Vn.2 (List.Pairwise.imp_of_mem (fun {p q} hp hq hne e=>hne ?_) hn);have h2:=hl p hp;have h3:=hl q hq;have e2:p.1*n+p.2=q.1*n+q.2:=by exact_mod_cast e
  have e3:p.1=q.1:=by
   rcases Vz p.1 q.1 with h|h|h
   · have:=X7 n (show p.1+1≤q.1 by omega);rw [X2] at this;omega
   · exact h
   · have:=X7 n (show q.1+1≤p.1 by omega);rw [X2] at this;omega
  rw [e3] at e2;exact Prod.ext e3 oM
 have h2:=SP (n*n) _ h1 fun s hs=>by
  obtain ⟨p,hp,rfl⟩:=Xr.1 hs;have h2:=hl p hp;have:=X7 n (show p.1+1≤n by omega);rw [X2] at this;omega
 simpa using h2
theorem DV {α:Type} {r:α→α→Bool} {l:List α} (h:chainB r l=true) (hi:∀a∈l,r a a=false) (ht:∀a∈l,∀b∈l,∀c∈l,r a b=true→r b c=true→r a c=true):l.Pairwise fun a b=>r a b=true:=by
 induction l with
 |nil=>exact .nil
 | cons x l ih=>
   have h1:∀i a b,(x::l)[i]? =some a→(x::l)[i+1]? =some b→r a b=true:=(KB r _).1 h;have h2:=ih ((KB r l).2 fun i a b ha hb=>h1 (i+1) a b ha hb) (fun a ha=>hi a (XS _ ha)) (fun a ha b hb c hc=>ht a (XS _ ha) b (XS _ hb) c (XS _ hc));refine XE.2 ⟨fun y hy=>?_,h2⟩
   cases l with
   |nil=>simp at hy
   | cons z l=>
     have h3:=h1 0 x z rfl rfl;rcases Xi.1 hy with rfl|hy2
     · exact h3
     · exact ht x sM z sM y (XS _ hy) h3 ((XE.1 h2).1 y hy2)
structure AOk (a:Aut):Prop where
 n0:0≤a.n
 n1:a.n≤2000
 s0:0≤a.syms
 s1:a.syms≤40
 ml:a.moves.length≤20000
 st:InS a a.start
 fi:InS a a.fin
 sl:a.start.length≤2000
 fl:a.fin.length≤2000
 mv:∀m∈a.moves,0≤m.src∧m.src<a.n∧0≤m.dst∧m.dst<a.n∧-1≤m.sym∧m.sym<a.syms
theorem GK:MpT prog 78 9 3 .string (.int .i64 0):=⟨underlying78,underlying9, .inl rfl,by show ZeroT _ _ _;unfold ZeroT;kernel_rfl⟩
theorem GL:PkT prog 79 82 9 3 (.int .i64 0):=⟨underlying79,underlying82,underlying9,by kernel_rfl,by kernel_rfl,by kernel_rfl,by kernel_rfl,by kernel_rfl,fun a b=>by kernel_rfl,⟨prog.types.size-1,by kernel_rfl⟩,by show ZeroT _ _ _;unfold ZeroT;kernel_rfl⟩
def DW:PV:= .agg [.val (.slice none 0 0), .val (.slice none 0 0), .val (.slice none 0 0), .val (.slice none 0 0)]
def Zi7 (l:List Var) (p:PV):Prop:=
 (validVars l=false∧p= .tup [DW,Zf 1])∨(validVars l=true∧40<(makeM l).a.length∧p= .tup [DW,Zf 5])∨(validVars l=true∧(makeM l).a.length≤40∧∃g,Er g (makeM l)∧p= .tup [KZ g,Zf 0])
theorem Zbl (m:List (ByteArray×Int)) (s:ByteArray):(Wc (skv (Wq m)) (.string s)).getD (.int .i64 0)= .int .i64 (iget m s):=by
 rw [Jr];exact DK m s
theorem DX (m:List (ByteArray×Int)) (s:ByteArray) (n:Int):Lr (skv (Wq m)) (.string s) (.int .i64 n)=skv (Wq (G3 m s n)):=by
 rw [Ty,DL]
theorem Zbm {κ:Type} (m:List (κ×Int)):(Wq m).map (·.1)=m.map (·.1):=by
 unfold Wq;rw [Xt];rfl
theorem ZeJ {κ:Type} {m:List (κ×Int)} {p:κ→Prop} (h:∀x∈m,p x.1):∀x∈Wq m,p x.1:=fun x hx=>by
 obtain ⟨y,hy,rfl⟩:=Xr.1 hx
 exact h y hy
theorem ζV {m:List (Pr×Value)} {k:Pr} {v:Value} {p:Pr→Prop} (h:∀x∈m,p x.1) (hk:p k):∀x∈WH m k v,p x.1:=fun x hx=>by
 rcases (HI x.1).1 (Xr.2 ⟨x,hx,rfl⟩) with h1|h1
 · rw [h1];exact hk
 · obtain ⟨z,hz,hzx⟩:=Xr.1 h1;rw [←hzx];exact h z hz
def midA (st:M4) (x:Var) (j:Nat):List (ByteArray×Int):=addAll st.a (x.acts.take j) x.count
def midQ (st:M4) (x:Var) (j:Nat):List (Pr×Int):=addAll st.q (W9 (x.acts.take j)) x.count
theorem ZeK {st:M4} {x:Var} {j:Nat} {s:ByteArray} (hs:x.acts[j]? =some s):midA st x (j+1)=G3 (midA st x j) s (iget (midA st x j) s+x.count):=by
 unfold midA;rw [ZW hs,P1];rfl
theorem Es {st:M4} {x:Var} {s:ByteArray} (hs:x.acts[0]? =some s):midQ st x (0+1)=midQ st x 0:=by
 unfold midQ;rw [ZeE hs];rfl
theorem Et {st:M4} {x:Var} {j:Nat} {a s:ByteArray} (ha:x.acts[j]? =some a) (hs:x.acts[j+1]? =some s):midQ st x (j+1+1)=G3 (midQ st x (j+1)) (a,s) (iget (midQ st x (j+1)) (a,s)+x.count):=by
 unfold midQ;rw [Zbh ha hs,P1];rfl
theorem Zix {st:M4} {x:Var} {b j:Nat} (h:KOk st b) (hx:WT x=true):MOk (midA st x j) (b+200):=by
 unfold WT at hx
 simp only [Xe,Ux,Xj] at hx
 exact (h.a.addAll oM hx.2).mono (by rw [XF];omega)
theorem Ziy {st:M4} {x:Var} {b j:Nat} (h:KOk st b) (hx:WT x=true):MOk (midQ st x j) (b+200)∧∀y∈midQ st x j,prOk y.1:=by
 unfold WT at hx
 simp only [Xe,Ux,Xj] at hx
 obtain ⟨⟨⟨h1,h2⟩,h3⟩,h4⟩:=hx
 have hp:=Po (x.acts.take j)
 refine ⟨(h.q.addAll oM h4).mono (by rw [XF] at hp;omega),TV h.k fun k hk=>?_⟩
 have:=Pq hk
 have n1:=Lh (h2 _ (V8 this.1))
 have n2:=Lh (h2 _ (V8 this.2))
 exact ⟨oM,oM⟩
set_option maxHeartbeats 4000000 in
theorem Ziz (l : List Var) (hf:Hd l):AF prog 13 [Z4 l] (Zi7 l):=by
 refine AF.of_body 100 func13 rfl ntmps13 (Xa rfl) ?_
 intro w0 M0 vs hl hv
 obtain ⟨v0,rfl⟩:=YG hl
 clear hl hv
 refine Zd ?_
 (refine ZA [(.slice none 0 0),(.slice none 0 0),(.slice none 0 0),(.slice none 0 0)] 4 2 JZ fun h2=>?_<;>refine xL 3 Zb ?_<;>refine Zi ?_)
 (refine xL 10 Za ?_<;>(refine cS 11 (cA call9 (Kq l hf)) fun v11 h=>?_;cases h)<;>refine xL 12 Yd ?_<;>refine Zc ?_)
 refine cX ?_ ?_<;>intro hb12
 · first|exact bN hb12|(
 refine Zd ?_;(refine xL 13 (ZO GJ) ?_<;>refine Zw 2 YA ?_<;>refine xL 3 Zb ?_<;>refine Zc ?_)
 exact Yn (k:=4) 2 kR (results13) rfl rfl rfl (Xa rfl) dC rfl (.inl ⟨by simpa using hb12,rfl⟩))
 · first | exact bN hb12|(
 (have hV:validVars l=true:=by simpa using hb12);(have hl300:l.length≤300:=by have h:=hV;simp only [validVars,Xe,Ux] at h;exact h.1);have hok:∀x∈l,WT x=true:=fun x hx=>by
  obtain ⟨i,hi⟩:=XP hx;exact LX hV hi
 have hK:=KOk.all hok;refine Zd ?_;(refine cO 14 (cA call44 (Hj)) fun v14 ho14=>?_<;>refine xL 4 Zb ?_<;>refine Zc ?_)
 refine ZE (ZhR (l:=14) rfl) fun i=>?_;obtain ⟨h14,hv14⟩:=i;subst hv14;refine ZE (Gl (l:=14) (l':=301) (j:=0) rfl rfl rfl rfl) fun i=>?_;obtain ⟨m1,hm1⟩:=i;refine ZE (Gl (l:=14) (l':=302) (j:=1) rfl rfl rfl rfl) fun i=>?_;obtain ⟨m2,hm2⟩:=i;refine ZE (Gl (l:=14) (l':=303) (j:=2) rfl rfl rfl rfl) fun i=>?_;obtain ⟨m3,hm3⟩:=i;refine ZE (Gl (l:=14) (l':=304) (j:=3) rfl rfl rfl rfl) fun i=>?_;obtain ⟨m4,hm4⟩:=i;dsimp only [List.set];(refine Zo ?_<;>refine xL 15 Za (xL 16 (ZF ZQ) (xL 17 Za ?_))<;>refine Zc ?_)
 refine Zy (ι:={k:Nat//k≤l.length}) (fun k=>⟨[(2,_,_),(4,_,_),(15,_,_),(16,_,_),(17, .int .i64 k.1,Zf k.1)],[(2,_,_),(14,h14, .own 81 4 1 [.val m1, .val m2, .val m3, .val m4]),(301,m1, .omap (skv (Wq (makeM (l.take k.1)).a))),(302,m2, .omap (skv (Wq (makeM (l.take k.1)).s))),(303,m3, .omap (skv (Wq (makeM (l.take k.1)).f))),(304,m4, .omap (akv (Wq (makeM (l.take k.1)).q)))]⟩) (fun k=>l.length-k.1) ⟨0,Xn _⟩ (fun a w H=>H.weaken ⟨rfl,rfl,rfl,rfl,rfl,trivial⟩ ⟨rfl,rfl,rfl,rfl,rfl,rfl,trivial⟩) ?_;rintro ⟨k,hk⟩;dsimp only;have hKk:=hK k hk;obtain ⟨st,hst⟩:∃st,st=makeM (l.take k):=⟨_,rfl⟩;rw [←hst] at hKk ⊢;refine Zd ?_;(refine xL 18 ZI ?_<;>refine Zc ?_)
 refine cX ?_ ?_<;>intro hb18
 · first | exact bN hb18|(
 obtain ⟨x,hx⟩:=Zm (show k<l.length by omega);have e1:=Yz Ys l k x hx;have e2:=YT Ys hx;have hxo:=hok x (Xb hx);have hxo2:=hxo;unfold WT at hxo2;simp only [Xe,Ux,Xj] at hxo2;obtain ⟨⟨⟨hxl,hxn⟩,hx1⟩,hx2⟩:=hxo2;have hnx:=DO hx;rw [←hst] at hnx;refine Zd ?_;(refine xL 19 (Zv ZQ) ?_<;>(refine yL 20 (Wl K7) fun v20 h=>?_;cases h)<;>refine ZA [(.slice none 0 0),(.int .i64 0)] 2 6 RY fun h6=>?_<;>refine Zw 6 K7 ?_<;>refine Zi ?_)
 (refine xL 21 (Zn 6 Z3) ?_<;>(refine yL 22 (Zr 6 ZX) fun v22 h=>?_;cases h)<;>refine xL 23 (ZF Zx) (xL 24 Za ?_)<;>refine Zc ?_)
 refine Zy (ι:={j:Nat//j≤x.acts.length}) (fun k=>⟨[(2,_,_),(4,_,_),(6,_,_),(15,_,_),(16,_,_),(17,_,_),(22,_,_),(23,_,_),(24, .int .i64 k.1,Zf k.1)],[(2,_,_),(6,_,_),(14,_,_),(302,_,_),(303,_,_),(301,m1, .omap (skv (Wq (midA st x k.1)))),(304,m4, .omap (akv (Wq (midQ st x k.1))))]⟩) (fun k=>x.acts.length-k.1) ⟨0,Xn _⟩ (fun a w H=>H.weaken ⟨rfl,rfl,rfl,rfl,rfl,rfl,rfl,rfl,rfl,trivial⟩ ⟨rfl,rfl,rfl,rfl,rfl,rfl,rfl,trivial⟩) ?_;rintro ⟨j,hj⟩;dsimp only;have hAj:=Zix (j:=j) hKk hxo;have hQj:=Ziy (j:=j) hKk hxo;refine Zd ?_;(refine xL 25 ZI ?_<;>refine Zc ?_)
 refine cX ?_ ?_<;>intro hb25
 · first | exact bN hb25|(
 obtain ⟨s,hs⟩:=Zm (show j<x.acts.length by omega);have e3:=Yq (f:=ZD) hs;have hgA:=hAj.get s;have hsn:=Lh (hxn s (Xb hs));refine Zd ?_;(refine xL 26 Za (xL 27 (Zv Zx) ?_)<;>(refine yL 28 (ZN ZP) fun v28 h=>?_;cases h)<;>refine xL 7 Zb (xL 8 Zb ?_)<;>refine Zc ?_)
 (refine ZM (fun i=>([9]:List Nat).elem i) [6,14,301] kR ?_<;>refine xD 0 29 rfl Za ?_<;>refine xD 1 30 rfl (Lk 14) ?_<;>refine xD 2 31 rfl (Zn 14 TW) ?_<;>(refine yD 3 32 rfl (Zr 14 JY) fun v32 h=>?_;cases h)<;>refine xD 4 33 rfl Za ?_<;>refine xD 5 34 rfl (TA 301 GK (hk:=G6 _ _) (hu:=Zbl _ _)) ?_<;>refine xE 6 35 rfl (Zn 6 WW) ?_<;>(refine yE 7 36 rfl (Zr 6 Ya) fun v36 h=>?_;cases h)<;>refine xE 8 37 rfl ZH ?_<;>(refine Zk 9 kR ?_)<;>(refine W8 rfl rfl kR fun DQ back=>?_)<;>refine L5 301 GK ?_<;>refine Ze (back _ (nav ?_))<;>try dsimp only)
 rw [DX,←ZeK hs];(refine Zo ?_<;>refine xL 38 Za (xL 39 YV ?_)<;>refine Zc ?_)
 refine cX ?_ ?_<;>intro hb39
 · first | exact bN hb39|(
 obtain ⟨j',rfl⟩:∃j',j=j'+1:=⟨j-1,oM⟩;obtain ⟨a,ha⟩:=Zm (show j'<x.acts.length by omega);(have e4:(x.acts.map ZD)[(((j'+1:Nat):Int)-1).toNat*1]? =some (ZD a):=by rw [show (((j'+1:Nat):Int)-1).toNat=j' by omega];exact Yq (f:=ZD) ha);have hgQ:=hQj.1.get (a,s);have han:=Lh (hxn a (Xb ha));have hpr:prOk (a,s):=⟨by show a.size≤_;omega,by show s.size≤_;omega⟩;(have hQn:((Wq (midQ st x (j'+1))).map (·.1)).Nodup:=by rw [Zbm];exact hQj.1.nd);have hQk:=ZeJ hQj.2;have hQg:=DK (midQ st x (j'+1)) (a,s);refine nav ?_;(refine ZM (fun i=>([18]:List Nat).elem i) [6,14] kR ?_<;>refine xD 0 40 rfl Za ?_<;>refine xD 1 41 rfl (Lk 14) ?_<;>refine xD 2 42 rfl (Zn 14 P4) ?_<;>(refine yD 3 43 rfl (Zr 14 Eo) fun v43 h=>?_;cases h)<;>refine xD 4 44 rfl (Zn 6 Z3) ?_<;>(refine yD 5 45 rfl (Zr 6 ZX) fun v45 h=>?_;cases h)<;>refine xD 6 46 rfl Za ?_<;>refine xD 7 47 rfl KD ?_<;>refine xD 8 48 rfl (Ts Zx) ?_<;>(refine yD 9 49 rfl (ZN ZP) fun v49 h=>?_;cases h)<;>refine xD 10 50 rfl Za ?_<;>refine xD 11 51 rfl (ZfA Ps Ep) ?_<;>refine xD 13 53 rfl (Zn 6 WW) ?_<;>(refine yD 14 54 rfl (Zr 6 Ya) fun v54 h=>?_;cases h)<;>(refine YU 12 16 kR ?_ ?_;rotate_right;(focus ((refine Zg rfl fun w9 M9 N9 DQ back=>?_)<;>(refine O7 304 56 (k:=(a,s)) GL hQk hQn hpr (fun b56 c56 n56 es56 hm56 hw56 he56 hj56=>?_);subst hm56)<;>refine Ze (back _ (nrm ?_))<;>refine xD 17 57 rfl Zp ?_<;>(refine Zk 12 kR ?_)<;>(refine Zg rfl fun w9 M9 N9 DQ back=>?_)<;>(first|refine xL 52 (Zb3 304 (k:=(a,s)) (u:= .int .i64 (iget (midQ st x (j'+1)) (a,s))) GL hQk hQn hpr hQg) ?_|refine xL 52 (C2 304 (k:=(a,s)) (u:= .int .i64 (iget (midQ st x (j'+1)) (a,s))) GL he56 (ζV hQk hpr) (SC hQn) hpr (by rw [HJ];exact hQg)) ?_)<;>refine Ze (back _ (nrm ?_))<;>refine xE 15 55 rfl ZH ?_));rotate_right;(focus ((refine Zg rfl fun w9 M9 N9 DQ back=>?_)<;>(first|refine xL 52 (Zb3 304 (k:=(a,s)) (u:= .int .i64 (iget (midQ st x (j'+1)) (a,s))) GL hQk hQn hpr hQg) ?_|refine xL 52 (C2 304 (k:=(a,s)) (u:= .int .i64 (iget (midQ st x (j'+1)) (a,s))) GL he56 (ζV hQk hpr) (SC hQn) hpr (by rw [HJ];exact hQg)) ?_)<;>refine Ze (back _ (nrm ?_))<;>refine xD 15 55 rfl ZH ?_<;>(refine Zk 16 kR ?_)<;>(refine Zg rfl fun w9 M9 N9 DQ back=>?_)<;>(refine O7 304 56 (k:=(a,s)) GL hQk hQn hpr (fun b56 c56 n56 es56 hm56 hw56 he56 hj56=>?_);subst hm56)<;>refine Ze (back _ (nrm ?_))<;>refine xE 17 57 rfl Zp ?_)))<;>(refine Zk 18 kR ?_)<;>(refine W8 rfl rfl kR fun DQ back=>?_)<;>(refine ZaJ 304 hw56 he56 (SC hQn) hj56 ?_;rw [Zds,DL])<;>refine Ze (back _ (nav ?_))<;>try dsimp only)<;>(
 (refine Zo ?_<;>refine xL 58 ZH (xL 24 Za ?_)<;>refine Zc ?_)
 try rw [←Et ha hs]
 try (obtain rfl:j=0:=by omega)
 try rw [←Es hs]
 first
  | (exact Zh (
      ⟨j'+1+1,oM⟩
      ) (by first|(show x.acts.length-(j'+1+1)<x.acts.length-(j'+1);omega)|(show x.acts.length-(0+1)<x.acts.length-0;omega)) ⟨rfl,rfl,rfl,rfl,rfl,rfl,rfl,rfl,rfl,trivial⟩ ⟨rfl,rfl,rfl,rfl,rfl,rfl,rfl,trivial⟩)
  | (exact Zh (
      ⟨0+1,oM⟩
      ) (by first|(show x.acts.length-(j'+1+1)<x.acts.length-(j'+1);omega)|(show x.acts.length-(0+1)<x.acts.length-0;omega)) ⟨rfl,rfl,rfl,rfl,rfl,rfl,rfl,rfl,rfl,trivial⟩ ⟨rfl,rfl,rfl,rfl,rfl,rfl,rfl,trivial⟩)))
 · first |exact bN hb39|(
 refine Zd ?_;(refine xL 58 ZH (xL 24 Za ?_)<;>refine Zc ?_)
 try rw [←Et ha hs]
 try (obtain rfl:j=0:=by omega)
 try rw [←Es hs]
 first
  | (exact Zh (
      ⟨j'+1+1,oM⟩
      ) (by first|(show x.acts.length-(j'+1+1)<x.acts.length-(j'+1);omega)|(show x.acts.length-(0+1)<x.acts.length-0;omega)) ⟨rfl,rfl,rfl,rfl,rfl,rfl,rfl,rfl,rfl,trivial⟩ ⟨rfl,rfl,rfl,rfl,rfl,rfl,rfl,trivial⟩)
  | (exact Zh (
      ⟨0+1,oM⟩
      ) (by first|(show x.acts.length-(j'+1+1)<x.acts.length-(j'+1);omega)|(show x.acts.length-(0+1)<x.acts.length-0;omega)) ⟨rfl,rfl,rfl,rfl,rfl,rfl,rfl,rfl,rfl,trivial⟩ ⟨rfl,rfl,rfl,rfl,rfl,rfl,rfl,trivial⟩)))
 · first |exact bN hb25|(
 refine nav ?_;have hjl:j=x.acts.length:=oM;(have eA:midA st x j=(mk1 st x).a:=by unfold midA mk1;rw [hjl,XI]);(have eQ:midQ st x j=(mk1 st x).q:=by unfold midQ mk1;rw [hjl,XI]);rw [eA,eQ];(refine Zo ?_<;>refine xL 59 (Zn 6 Z3) ?_<;>(refine yL 60 (Zr 6 ZX) fun v60 h=>?_;cases h)<;>refine xL 61 (ZF Zx) (xL 9 Zb ?_)<;>refine Zi ?_)
 (refine xL 62 Za (xL 63 YV ?_)<;>refine Zc ?_)
 refine cX ?_ ?_<;>intro hb63
 · first|exact bN hb63|(
 obtain ⟨s0,hs0⟩:=Zm (show 0<x.acts.length by omega);obtain ⟨s1,hs1⟩:=Zm (show x.acts.length-1<x.acts.length by omega);have e5:(x.acts.map ZD)[0*1]? =some (ZD s0):=Yq (f:=ZD) hs0;(have e6:(x.acts.map ZD)[((x.acts.length:Int)-1).toNat*1]? =some (ZD s1):=by rw [show ((x.acts.length:Int)-1).toNat=x.acts.length-1 by omega];exact Yq (f:=ZD) hs1);have hgS:=hKk.s.get s0;have hgF:=hKk.f.get s1;refine nav ?_;(refine ZM (fun i=>([12]:List Nat).elem i) [6,14,302] kR ?_<;>refine xD 0 64 rfl Za ?_<;>refine xD 1 65 rfl (Lk 14) ?_<;>refine xD 2 66 rfl (Zn 14 P2) ?_<;>(refine yD 3 67 rfl (Zr 14 JY) fun v67 h=>?_;cases h)<;>refine xD 4 68 rfl (Zn 6 Z3) ?_<;>(refine yD 5 69 rfl (Zr 6 ZX) fun v69 h=>?_;cases h)<;>refine xD 6 70 rfl (Zv (i:=0) Zx) ?_<;>(refine yD 7 71 rfl (ZN ZP) fun v71 h=>?_;cases h)<;>refine xD 8 72 rfl (TA 302 GK (hk:=G6 _ _) (hu:=Zbl _ _)) ?_<;>refine xE 9 73 rfl (Zn 6 WW) ?_<;>(refine yE 10 74 rfl (Zr 6 Ya) fun v74 h=>?_;cases h)<;>refine xE 11 75 rfl ZH ?_<;>(refine Zk 12 kR ?_)<;>(refine W8 rfl rfl kR fun DQ back=>?_)<;>refine L5 302 GK ?_<;>refine Ze (back _ (nav ?_))<;>try dsimp only)
 (refine ZM (fun i=>([14]:List Nat).elem i) [6,14,303] kR ?_<;>refine xD 0 76 rfl Za ?_<;>refine xD 1 77 rfl (Lk 14) ?_<;>refine xD 2 78 rfl (Zn 14 P3) ?_<;>(refine yD 3 79 rfl (Zr 14 JY) fun v79 h=>?_;cases h)<;>refine xD 4 80 rfl (Zn 6 Z3) ?_<;>(refine yD 5 81 rfl (Zr 6 ZX) fun v81 h=>?_;cases h)<;>refine xD 6 82 rfl Za ?_<;>refine xD 7 83 rfl KD ?_<;>refine xD 8 84 rfl (Ts Zx) ?_<;>(refine yD 9 85 rfl (ZN ZP) fun v85 h=>?_;cases h)<;>refine xD 10 86 rfl (TA 303 GK (hk:=G6 _ _) (hu:=Zbl _ _)) ?_<;>refine xE 11 87 rfl (Zn 6 WW) ?_<;>(refine yE 12 88 rfl (Zr 6 Ya) fun v88 h=>?_;cases h)<;>refine xE 13 89 rfl ZH ?_<;>(refine Zk 14 kR ?_)<;>(refine W8 rfl rfl kR fun DQ back=>?_)<;>refine L5 303 GK ?_<;>refine Ze (back _ (nav ?_))<;>try dsimp only)
 (refine Zo ?_<;>refine xL 90 ZH (xL 17 Za ?_)<;>refine Zc ?_)
 try rw [DX,DX]
 try rw [show G3 st.s s0 (iget st.s s0+x.count)=(mk1 st x).s by unfold mk1;cases hc:x.acts with|nil=>rw [hc] at hs0;simp at hs0|cons z t=>rw [hc] at hs0;simp at hs0;subst hs0;rfl]
 try rw [show G3 st.f s1 (iget st.f s1+x.count)=(mk1 st x).f by unfold mk1;rw [List.getLast?_eq_getElem?,hs1];rfl]
 try rw [show st.s=(mk1 st x).s by unfold mk1;rw [show x.acts=[] from Xw oM],show st.f=(mk1 st x).f by unfold mk1;rw [show x.acts=[] from Xw oM];rfl]
 rw [←hnx];refine Zh (
  ⟨k+1,oM⟩
  ) (by dsimp only;omega) ⟨rfl,rfl,rfl,rfl,rfl,trivial⟩ ⟨rfl,rfl,rfl,rfl,rfl,rfl,trivial⟩)
 · first|exact bN hb63|(
 refine Zd ?_;(refine xL 90 ZH (xL 17 Za ?_)<;>refine Zc ?_)
 try rw [DX,DX]
 try rw [show G3 st.s s0 (iget st.s s0+x.count)=(mk1 st x).s by unfold mk1;cases hc:x.acts with|nil=>rw [hc] at hs0;simp at hs0|cons z t=>rw [hc] at hs0;simp at hs0;subst hs0;rfl]
 try rw [show G3 st.f s1 (iget st.f s1+x.count)=(mk1 st x).f by unfold mk1;rw [List.getLast?_eq_getElem?,hs1];rfl]
 try rw [show st.s=(mk1 st x).s by unfold mk1;rw [show x.acts=[] from Xw oM],show st.f=(mk1 st x).f by unfold mk1;rw [show x.acts=[] from Xw oM];rfl]
 rw [←hnx];refine Zh (
  ⟨k+1,oM⟩
  ) (by dsimp only;omega) ⟨rfl,rfl,rfl,rfl,rfl,trivial⟩ ⟨rfl,rfl,rfl,rfl,rfl,rfl,trivial⟩)))
 · first|exact bN hb18|(
 refine nav ?_;obtain rfl:k=l.length:=oM;rw [XI] at hst;have hKl:=hKk;rw [hst] at hKl ⊢;have hAl:=hKl.a.len;(refine Zo ?_<;>refine xL 91 Za (xL 92 (Lk 14) (xL 93 (Zn 14 TW) ?_))<;>(refine yL 94 (Zr 14 JY) fun v94 h=>?_;cases h)<;>refine xL 95 (ZhC 301 underlying78) (xL 96 YV ?_)<;>refine Zc ?_)
 refine cX ?_ ?_<;>intro hb96
 · first|exact bN hb96|(
 refine Zd ?_;(refine xL 97 (ZO GJ) ?_<;>refine Zw 2 YA ?_<;>refine xL 3 Zb ?_<;>refine Zc ?_)
 exact Yn (k:=4) 2 kR (results13) rfl rfl rfl (Xa rfl) dC rfl (.inr (.inl ⟨hV,by unfold skv Wq at hb96;simp only [Xd] at hb96;omega,rfl⟩)))
 · first|exact bN hb96|(
 refine nav ?_;(have h40:(makeM l).a.length≤40:=by unfold skv Wq at hb96;simp only [Xd] at hb96;omega);refine ZE (J5 (l:=14) (l':=301) (j:=0) rfl rfl rfl rfl) fun _=>?_;refine ZE (J5 (l:=14) (l':=302) (j:=1) rfl rfl rfl rfl) fun _=>?_;refine ZE (J5 (l:=14) (l':=303) (j:=2) rfl rfl rfl rfl) fun _=>?_;refine ZE (J5 (l:=14) (l':=304) (j:=3) rfl rfl rfl rfl) fun _=>?_;refine ZE (G8 (l:=14) (t:=4) (j:=0) rfl X8 rfl) fun _=>?_;dsimp only [Yt,share,List.set];(refine Zo ?_<;>refine xL 98 Za ?_<;>(refine cDx 99 (cA call45 ((ZgU (makeM l) _ oM hKl).mono (R':=fun p=>∃i:{g//Er g (makeM l)},p=KZ i.1) fun p ⟨g,h1,h2⟩=>⟨⟨g,h1⟩,h2⟩)) (fun i v99 hv99=>?_) (fun _=>rfl);obtain ⟨g,hg⟩:=i;dsimp only [KZ])<;>refine Zw 2 YA ?_<;>refine xL 3 Zb ?_<;>refine Zc ?_)
 exact Yn (k:=4) 2 kR (results13) rfl rfl rfl (Xa rfl) dC rfl (.inr (.inr ⟨hV,h40,g,hg,rfl⟩)))))
end Go.Proofs.YtmkojdfiadbeeaaGreat
