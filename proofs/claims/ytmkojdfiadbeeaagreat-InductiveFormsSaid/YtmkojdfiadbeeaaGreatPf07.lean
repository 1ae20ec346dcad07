/-
  Walks of functions and plain laws of the chapter, as the claim needs them.
-/
import Derived.Test.YtmkojdfiadbeeaaGreatProg
import Derived.Test.YtmkojdfiadbeeaaGreatPf06
import Derived.Test.YtmkojdfiadbeeaaGreatPf04
import Derived.Test.YtmkojdfiadbeeaaGreatPf05
import Derived.Test.YtmkojdfiadbeeaaGreatPf03
import Derived.Test.YtmkojdfiadbeeaaGreatPf02
import Derived.Test.YtmkojdfiadbeeaaGreatPf01
namespace Go.Proofs.YtmkojdfiadbeeaaGreat
open Go.RowKit Go.Cb Go.En Tryz
set_option linter.all false
set_option maxRecDepth 100000
def ζz (S F:Nat→Bool) (x:Int):Bool:=S x.toNat||F x.toNat
def inL (n:Nat) (S F:Nat→Bool):List Int:=(upTo n).filter (ζz S F)
def Hg (n:Nat) (S F:Nat→Bool):List Int:=(upTo n).filter fun x=> !ζz S F x
theorem H9 (k:Nat):upTo (k+1)=upTo k++[(k:Int)]:=by
 unfold upTo vec;rw [List.range_succ,X1];rfl
theorem Zgp (k:Nat) (S F:Nat→Bool):inL (k+1) S F=inL k S F++(if S k=true∨F k=true then [(k:Int)] else []):=by
 unfold inL
 rw [H9,Us]
 congr 1
 by_cases h:S k=true∨F k=true
 · rw [UB h,VV]; · rfl
   unfold ζz;rw [XL];rcases h with h|h<;>simp [h]
 · rw [UA h,VU]; · rfl
   unfold ζz;rw [XL];simpa using h
theorem Zd4 (k:Nat) (S F:Nat→Bool):Hg (k+1) S F=Hg k S F++(if S k=true∨F k=true then [] else [(k:Int)]):=by
 unfold Hg
 rw [H9,Us]
 congr 1
 by_cases h:S k=true∨F k=true
 · rw [UB h,VU]; · rfl
   unfold ζz;rw [XL];rcases h with h|h<;>simp [h]
 · rw [UA h,VV]; · rfl
   unfold ζz;rw [XL];have h1:S k=false:=by simpa using fun hh=>h (.inl hh)
   have h2:F k=false:=by simpa using fun hh=>h (.inr hh)
   rw [h1,h2];rfl
theorem Zgq {n:Nat} {S F:Nat→Bool}:(inL n S F).length≤n∧∀x∈inL n S F,0≤x∧x<n:=⟨by have:=List.length_filter_le (ζz S F) (upTo n);rw [K1] at this;exact this,fun x hx=>W0.1 (Vr.1 hx).1⟩
theorem Zcv {n:Nat} {S F:Nat→Bool}:(Hg n S F).length≤n∧∀x∈Hg n S F,0≤x∧x<n:=⟨by have:=List.length_filter_le (fun x=> !ζz S F x) (upTo n);rw [K1] at this;exact this,fun x hx=>W0.1 (Vr.1 hx).1⟩
theorem Zgr (n:Nat) (S F:Nat→Bool):(Hg n S F).Pairwise (· < ·):=(TP n).filter _
def SJ (n:Nat) (E:Nat→Nat→Bool) (S F:Nat→Bool) (c:List Int):Bool:=c.all fun x=>(inL n S F).all fun y=>Ww n E S F y.toNat x.toNat
theorem ζA {α:Type} {p:α→Bool} {l:List α} {k:Nat} {x:α} (h:l[k]? =some x):(l.take (k+1)).all p=((l.take k).all p&&p x):=by
 rw [ZW h,List.all_append];simp
theorem Sj {α:Type} {p:α→Bool} {l:List α} {k:Nat} {x:α} (h:l[k]? =some x):(l.take (k+1)).filter p=(l.take k).filter p++(if p x=true then [x] else []):=by
 rw [ZW h,Us]
 by_cases hp:p x=true
 · rw [UB hp,VV hp];rfl
 · rw [UA hp,VU hp];rfl
def Dw (n:Nat) (E:Nat→Nat→Bool) (S F:Nat→Bool) (cs:List (List Int)):List (List Int):=
 ((inL n S F++(cs.filter fun c=> !SJ n E S F c).flatten).mergeSort fun x y=>decide (x≤y))::cs.filter (SJ n E S F)
def Zky (l:List ByteArray) (n:Nat) (E:Nat→Nat→Bool) (S F:Nat→Bool) (p:PV):Prop:=(inL n S F=[]∧p= .tup [.agg [Zf 0, .val (.slice none 0 0)],Zf 10])∨∃cs,inL n S F≠[]∧Comps (Hg n S F) (ζx E) cs∧p=Dr l 4 (Dw n E S F cs)
theorem Zd5 (p:List Int→Bool) (cs:List (List Int)):(cs.filter p).flatten.length≤cs.flatten.length:=by
 induction cs with
 |nil=>simp
 | cons c cs ih=>
   rw [List.filter_cons];split<;>simp only [XR,Xf]<;>omega
theorem Zd6 {l:List Int} {r:Int→Int→Bool} {cs:List (List Int)} (h:Comps l r cs):(∀c∈cs,∀x∈c,x∈l)∧cs.length≤l.length∧(∀c∈cs,c.length≤l.length)∧cs.flatten.length≤l.length:=by
 have h3:=JV h.nd (fun x hx=>(h.mem x).1 hx)
 refine ⟨fun c hc x hx=>(h.mem x).1 (Vm.2 ⟨c,hc,hx⟩),?_,fun c hc=>?_,h3⟩
 · refine XG ?_ h3;have:∀m:List (List Int),(∀c∈m,c≠[])→m.length≤m.flatten.length:=fun m=>by
    induction m with
    |nil=>intro _;simp
    | cons c m ih=>
      intro h;have h1:=ih fun d hd=>h d (by simp [hd]);have h2:=Vc.2 (h c sM);rw [XR,Xf,Xg];omega
   exact this cs h.ne
 · refine XG ?_ h3;obtain ⟨a,b,rfl⟩:=List.append_of_mem hc;simp only [VA,XR,Xf];omega
theorem Zgs (l:List ByteArray) (n:Nat) (E:Nat→Nat→Bool) (S F:Nat→Bool) (x y:Int) (hx:0≤x∧x<n) (hy:0≤y∧y<n):AF prog 62 [Zf x,Zf y, .sptr 0 [K9 l n E S F]] (· =ZB (ζx E x y)):=by
 obtain ⟨a,rfl⟩:∃a:Nat,x=a:=⟨x.toNat,oM⟩
 obtain ⟨b,rfl⟩:∃b:Nat,y=b:=⟨y.toNat,oM⟩
 have e1:=Yp (fun i=>Wv n (E i)) (show a<n by omega)
 have e2:=Yp (fun j=>ZB (E a j)) (show b<n by omega)
 refine AF.of_body 16 func62 rfl ntmps62 (Xa rfl) ?_
 intro w0 M0 vs hl hv
 obtain ⟨v0,v1,v2,rfl⟩:=RI hl
 obtain rfl:=hv 0 _ _ rfl rfl
 obtain rfl:=hv 1 _ _ rfl rfl
 clear hl hv
 dsimp only [K9]
 refine Zd ?_
 (refine xL 5 Zb ?_<;>refine Zi ?_)
 ((refine yL 6 (ZN YI) fun v6 h=>?_;cases h)<;>refine xL 7 Y0 (xL 8 (YN WA) ?_)<;>(refine yL 9 (ZN Y') fun v9 h=>?_;cases h)<;>refine xL 10 Za (xL 11 (Zv Yk) ?_)<;>(refine yL 12 (ZN Z1) fun v12 h=>?_;cases h)<;>refine xL 13 Za (xL 14 (Zv Yc) ?_)<;>(refine yL 15 (ZN Yv) fun v15 h=>?_;cases h)<;>refine xL 5 Zb ?_<;>refine Zc ?_)
 exact Zl results62 rfl rfl
set_option maxHeartbeats 2000000 in
theorem Za1 (g : Dfg) (l :List ByteArray) (n:Nat) (E:Nat→Nat→Bool) (S F:Nat→Bool) (hb:AF prog 46 [KZ g] (· = .tup [K9 l n E S F,Zf 0])) (hl:l.length=n) (hn:n≤1000):AF prog 17 [KZ g] (Zky l n E S F):=by
 refine AF.of_body 114 func17 rfl ntmps17 (Xa rfl) ?_
 intro w0 M0 vs hl hv
 obtain ⟨v0,rfl⟩:=YG hl
 clear hl hv
 refine Zd ?_
 (refine Yi 1 4 fun h1=>?_<;>refine ZA [(.int .i64 0),(.slice none 0 0)] 2 2 Ki fun h2=>?_<;>refine xL 3 Zb ?_<;>refine Zi ?_)
 ((refine yL 19 (Zu 1 YA) fun v19 h=>?_;cases h)<;>(refine cP 20 (cA call46 (hb)) fun va20 vb20 hva20 h=>?_;cases h)<;>refine xL 18 Za (xL 21 Zp (xL 22 Zp ?_))<;>refine ZA [(.pointer none)] 1 4 Pe fun h4=>?_<;>refine P5 4 YI Pd ?_<;>refine xL 5 Zb ?_<;>refine Zi ?_)
 (refine xL 23 Za (xL 24 Wg ?_)<;>refine Zc ?_)<;>(try (exfalso;omega))<;>(
 refine cX ?_ ?_<;>intro hb24
 · exfalso;omega
 · refine nav ?_;refine ZE (G8 (l:=4) (t:=4) (j:=0) rfl X8 rfl) fun _=>?_;dsimp only [Yt,share,List.map,K9];(refine Zo ?_<;>refine xL 6 Zb (xL 7 Zb ?_)<;>refine Zi ?_)
   ((refine yL 27 (ZN YI) fun v27 h=>?_;cases h)<;>refine xL 28 Y0 (xL 29 (YN WY) ?_)<;>(refine yL 30 (ZN ZX) fun v30 h=>?_;cases h)<;>refine xL 31 (ZF Zx) (xL 32 Za ?_)<;>refine Zc ?_)
   refine ZE (W3 200 3 1 rfl) fun _=>?_;refine ZE (W3 201 3 1 rfl) fun _=>?_;refine Zy (ι:={x:Nat×Value×Value×List Int×List Int//x.1≤n∧x.2.1.oneCell'=true∧x.2.2.1.oneCell'=true∧x.2.2.2.1=inL x.1 S F∧x.2.2.2.2=Hg x.1 S F}) (fun k=>⟨[(2,_,_),(4,_,_),(31,_,_),(6,k.1.2.1, .val k.1.2.1),(7,k.1.2.2.1, .val k.1.2.2.1),(32, .int .i64 k.1.1,Zf k.1.1)],[(2,_,_),(200,k.1.2.1, .own 3 1 k.1.2.2.2.1.length (k.1.2.2.2.1.map Zf)),(201,k.1.2.2.1, .own 3 1 k.1.2.2.2.2.length (k.1.2.2.2.2.map Zf))]⟩) (fun k=>n-k.1.1) ⟨(0, .slice none 0 0, .slice none 0 0,[],[]),Xn _,rfl,rfl,rfl,rfl⟩ (fun a w H=>H.weaken ⟨rfl,rfl,rfl,rfl,rfl,rfl,trivial⟩ ⟨rfl,rfl,rfl,trivial⟩) ?_;rintro ⟨⟨k,ha,hbv,A,B⟩,hk,hoa,hob,hA,hB⟩;dsimp only;dsimp only at hk hoa hob hA hB;(have hAl:A.length≤1000:=by have:=(Zgq (n:=k) (S:=S) (F:=F)).1;rw [hA];omega);(have hBl:B.length≤1000:=by have:=(Zcv (n:=k) (S:=S) (F:=F)).1;rw [hB];omega);have hAm:(A.map Zf).length=A.length:=Xd _;have hBm:(B.map Zf).length=B.length:=Xd _;refine Zd ?_;(refine xL 33 ZI ?_<;>refine Zc ?_)
   refine cX ?_ ?_<;>intro hb33
   · first | exact bN hb33|(
 have hkn:k<n:=oM;have eS:=Yp (fun j=>ZB (S j)) hkn;have eF:=Yp (fun j=>ZB (F j)) hkn;have s1:=Zgp k S F;have s2:=Zd4 k S F;refine Zd ?_;(refine xL 34 Za (xL 8 Zb ?_)<;>refine Zi ?_)
 ((refine yL 35 (ZN YI) fun v35 h=>?_;cases h)<;>refine xL 36 Y0 (xL 37 (YN Gf) ?_)<;>(refine yL 38 (ZN Z1) fun v38 h=>?_;cases h)<;>refine xL 39 Za (xL 40 (Zv Yc) ?_)<;>(refine yL 41 (ZN Yv) fun v41 h=>?_;cases h)<;>refine xL 42 Za ?_<;>(refine bL 42 (fun hb42=>?_) (fun hb42=>?_)<;>(first|refine kL 43 ?_|(refine yL 43 (ZN YI) fun v43 h=>?_;cases h)))<;>(first|refine kL 44 ?_|refine xL 44 Y0 ?_)<;>(first|refine kL 45 ?_|refine xL 45 (YN Gg) ?_)<;>(first|refine kL 46 ?_|(refine yL 46 (ZN Z1) fun v46 h=>?_;cases h))<;>(first|refine kL 47 ?_|refine xL 47 Za ?_)<;>(first|refine kL 48 ?_|refine xL 48 (Zv Yc) ?_)<;>(first|refine kL 49 ?_|(refine yL 49 (ZN Yv) fun v49 h=>?_;cases h))<;>refine xL 50 Zt ?_<;>refine Zc ?_)<;>(
 refine cX ?_ ?_<;>intro hb50
 · first |exact bN hb50|(
 refine Zd ?_;(refine xL 51 Za (xL 52 Za ?_)<;>refine W4 (kk:=1) 53 WF fun h53 ho53=>?_<;>refine Kd 200 53 54 WF fun h54 ho54=>?_<;>refine xL 6 Zb ?_<;>refine Zi ?_)
 (refine xL 59 ZH (xL 32 Za ?_)<;>refine Zc ?_)
 try refine Yh (Z5 (l:=54) 200 rfl rfl) fun _=>?_
 try refine Yh (Z5 (l:=58) 201 rfl rfl) fun _=>?_
 try rw [show A.map Zf++[Zf k]=(A++[(k:Int)]).map Zf by simp,show A.length+1=(A++[(k:Int)]).length by simp]
 try rw [show B.map Zf++[Zf k]=(B++[(k:Int)]).map Zf by simp,show B.length+1=(B++[(k:Int)]).length by simp]
 first
  | (exact Zh (
      ⟨(k+1,h54,hbv,A++[(k:Int)],B),by show k+1≤n;omega,ho54,hob,by show A++[(k:Int)]=_;rw [s1,UB (by simp [*]),hA],by show B=_;rw [s2,UB (by simp [*]),Xu,hB]⟩
      ) (by show n-(k+1)<n-k;omega) ⟨rfl,rfl,rfl,rfl,rfl,rfl,trivial⟩ ⟨rfl,rfl,rfl,trivial⟩)
  | (exact Zh (
      ⟨(k+1,ha,h58,A,B++[(k:Int)]),by show k+1≤n;omega,hoa,ho58,by show A=_;rw [s1,UA (by simp [*]),Xu,hA],by show B++[(k:Int)]=_;rw [s2,UA (by simp [*]),hB]⟩
      ) (by show n-(k+1)<n-k;omega) ⟨rfl,rfl,rfl,rfl,rfl,rfl,trivial⟩ ⟨rfl,rfl,rfl,trivial⟩))
 · first |exact bN hb50|(
 refine Zd ?_;(refine xL 55 Za (xL 56 Za ?_)<;>refine W4 (kk:=1) 57 WF fun h57 ho57=>?_<;>refine Kd 201 57 58 WF fun h58 ho58=>?_<;>refine xL 7 Zb ?_<;>refine Zi ?_)
 (refine xL 59 ZH (xL 32 Za ?_)<;>refine Zc ?_)
 try refine Yh (Z5 (l:=54) 200 rfl rfl) fun _=>?_
 try refine Yh (Z5 (l:=58) 201 rfl rfl) fun _=>?_
 try rw [show A.map Zf++[Zf k]=(A++[(k:Int)]).map Zf by simp,show A.length+1=(A++[(k:Int)]).length by simp]
 try rw [show B.map Zf++[Zf k]=(B++[(k:Int)]).map Zf by simp,show B.length+1=(B++[(k:Int)]).length by simp]
 first
  | (exact Zh (
      ⟨(k+1,h54,hbv,A++[(k:Int)],B),by show k+1≤n;omega,ho54,hob,by show A++[(k:Int)]=_;rw [s1,UB (by simp [*]),hA],by show B=_;rw [s2,UB (by simp [*]),Xu,hB]⟩
      ) (by show n-(k+1)<n-k;omega) ⟨rfl,rfl,rfl,rfl,rfl,rfl,trivial⟩ ⟨rfl,rfl,rfl,trivial⟩)
  | (exact Zh (
      ⟨(k+1,ha,h58,A,B++[(k:Int)]),by show k+1≤n;omega,hoa,ho58,by show A=_;rw [s1,UA (by simp [*]),Xu,hA],by show B++[(k:Int)]=_;rw [s2,UA (by simp [*]),hB]⟩
      ) (by show n-(k+1)<n-k;omega) ⟨rfl,rfl,rfl,rfl,rfl,rfl,trivial⟩ ⟨rfl,rfl,rfl,trivial⟩))))
   · first | exact bN hb33|(
 refine nav ?_;have hkn:k=n:=oM;(have hAe:A=inL n S F:=by rw [hA,hkn]);(have hBe:B=Hg n S F:=by rw [hB,hkn]);(have hAi:∀x∈A,0≤x∧x<n:=fun x hx=>by rw [hAe] at hx;exact Zgq.2 x hx);(have hBi:∀x∈B,0≤x∧x<n:=fun x hx=>by rw [hBe] at hx;exact Zcv.2 x hx);(have hBasc:B.Pairwise (· < ·):=by rw [hBe];exact Zgr n S F);(refine Zo ?_<;>refine xL 60 Za (xL 61 (Y7 200 Yb) (xL 62 ZU ?_))<;>refine Zc ?_)
 refine cX ?_ ?_<;>intro hb62
 · first|exact bN hb62|(
 refine Zd ?_;(refine xL 63 (ZO Sf) ?_<;>refine Zw 2 YB ?_<;>refine xL 3 Zb ?_<;>refine Zc ?_)
 exact Yn (k:=2) 2 kR (results17) rfl rfl rfl (Xa rfl) dC rfl (.inl ⟨by rw [←hAe];exact Xw oM,rfl⟩))
 · first | exact bN hb62|(
 refine nav ?_;have hAp:0<A.length:=oM;refine ZE (En.freeze (l:=200) (t:=6) rfl rfl) fun _=>?_;rw [JW _ _ _ rfl];refine ZE (En.freeze (l:=201) (t:=7) rfl rfl) fun _=>?_;rw [JW _ _ _ rfl];(refine Zo ?_<;>refine xL 64 Za ?_<;>refine cO 65 (cA call59 (Du A oM)) fun v65 ho65=>?_<;>refine xL 9 Zb ?_<;>refine Zi ?_)
 (refine xL 10 Zb ?_<;>refine Zi ?_)
 (refine xL 66 Za (xL 67 Lj ?_)<;>(refine GN 68 rfl rfl (Xa rfl) rfl (cA call48 (G0 62 [.sptr 0 [K9 l n E S F]] (ζx E) B hBasc oM (call62) (fun x hx y hy=>Zgs l n E S F x y (hBi x hx) (hBi y hy)))) ?_;rintro p' ⟨cs,hcs,rfl⟩;refine ⟨rfl,fun h68 ho68=>?_⟩;refine ZJ (En.freeze (l:=68) (t:=68) rfl rfl) fun _=>?_;rw [Ji _ _ _ rfl])<;>refine xL 69 (ZF Ke) (xL 70 Za ?_)<;>refine Zc ?_)
 have hin:=Zd6 hcs;refine ZE (W3 200 90 1 rfl) fun _=>?_;refine ZE (Z5 (l:=65) 201 rfl rfl) fun _=>?_;refine Zy (ι:={x:Nat×Value×Value×List (List Int)×List Int//x.1≤cs.length∧x.2.2.1.oneCell'=true∧x.2.2.2.1=(cs.take x.1).filter (SJ n E S F)∧x.2.2.2.2=A++((cs.take x.1).filter fun c=> !SJ n E S F c).flatten}) (fun k=>⟨[(2,_,_),(4,_,_),(6,_,_),(68,_,_),(69,_,_),(10,k.1.2.1, .val k.1.2.1),(9,k.1.2.2.1, .val k.1.2.2.1),(70, .int .i64 k.1.1,Zf k.1.1)],[(2,_,_),(200,k.1.2.1, .own 90 1 k.1.2.2.2.1.length (k.1.2.2.2.1.map pInts)),(201,k.1.2.2.1, .own 3 1 k.1.2.2.2.2.length (k.1.2.2.2.2.map Zf))]⟩) (fun k=>cs.length-k.1.1) ⟨(0, .slice none 0 0,v65,[],A),Xn _,ho65,rfl,(Xu A).symm⟩ (fun a w H=>H.weaken ⟨rfl,rfl,rfl,rfl,rfl,rfl,rfl,rfl,trivial⟩ ⟨rfl,rfl,rfl,trivial⟩) ?_;rintro ⟨⟨i,hc,hdv,C,D⟩,hi,hod,hC,hD⟩;dsimp only;dsimp only at hi hod hC hD;have hCl:C.length≤1000:=by
  have:=List.length_filter_le (SJ n E S F) (cs.take i);rw [hC];rw [XF] at this;omega
 have hDl:D.length≤2000:=by
  have h1:=Zd5 (fun c=> !SJ n E S F c) (cs.take i);have h2:(cs.take i).flatten.length≤cs.flatten.length:=by
   (have:cs.flatten=(cs.take i).flatten++(cs.drop i).flatten:=by rw [←VA,VH]);rw [this,Xf];omega
  rw [hD,Xf];omega
 have hCm:(C.map pInts).length=C.length:=Xd _;have hDm:(D.map Zf).length=D.length:=Xd _;refine Zd ?_;(refine xL 71 ZI ?_<;>refine Zc ?_)
 refine cX ?_ ?_<;>intro hb71
 · first | exact bN hb71|(
 obtain ⟨cl,hx⟩:=Zm (show i<cs.length by omega);have e1:=Yq (f:=pInts) hx;have hcm:=Xb hx;have hcll:=hin.2.2.1 cl hcm;have s3:=Sj (p:=SJ n E S F) hx;have s4:=Sj (p:=fun c=> !SJ n E S F c) hx;(have e2:(cl.map Zf).length=cl.length*1:=by rw [Xd,XO]);(have e3:(cl.map Zf).all En.one=true:=by rw [List.all_map,Xj];intro x _;rfl);refine Zd ?_;(refine xL 72 (Zv Ke) ?_<;>(refine yL 73 (ZN LB) fun v73 h=>?_;cases h)<;>refine xL 12 Zb ?_<;>refine Zi ?_)
 (refine xL 13 Zb ?_<;>refine Zi ?_)
 (refine xL 74 Za (xL 75 (ZF Yb) (xL 76 Za ?_))<;>refine Zc ?_)
 refine Zy (ι:={x:Nat×Bool//x.1≤cl.length∧x.2=(cl.take x.1).all fun x=>A.all fun y=>Ww n E S F y.toNat x.toNat}) (fun k=>⟨[(2,_,_),(4,_,_),(6,_,_),(68,_,_),(69,_,_),(9,_,_),(10,_,_),(70,_,_),(12,_,_),(74,_,_),(75,_,_),(13, .bool k.1.2,ZB k.1.2),(76, .int .i64 k.1.1,Zf k.1.1)],[(2,_,_),(200,_,_),(201,_,_)]⟩) (fun k=>cl.length-k.1.1) ⟨(0,true),Xn _,rfl⟩ (fun a w H=>H.weaken ⟨rfl,rfl,rfl,rfl,rfl,rfl,rfl,rfl,rfl,rfl,rfl,rfl,rfl,trivial⟩ ⟨rfl,rfl,rfl,trivial⟩) ?_;rintro ⟨⟨q,b⟩,hq,hbe⟩;dsimp only;dsimp only at hq hbe;refine Zd ?_;(refine xL 77 ZI ?_<;>refine Zc ?_)
 refine cX ?_ ?_<;>intro hb77
 · first | exact bN hb77|(
 obtain ⟨u,hu⟩:=Zm (show q<cl.length by omega);have e4:=Yq (f:=Zf) hu;have hui:=hBi u (hin.1 cl hcm u (Xb hu));have s5:=ζA (p:=fun x:Int=>A.all fun y=>Ww n E S F y.toNat x.toNat) hu;refine Zd ?_;(refine xL 78 (Zv Yb) ?_<;>(refine yL 79 (ZN Ya) fun v79 h=>?_;cases h)<;>refine xL 15 Zb ?_<;>refine Zi ?_)
 (refine xL 80 Za (xL 81 (ZF Yb) (xL 82 Za ?_))<;>refine Zc ?_)
 refine Zy (ι:={x:Nat×Bool//x.1≤A.length∧x.2=(b&&(A.take x.1).all fun y=>Ww n E S F y.toNat u.toNat)}) (fun k=>⟨[(2,_,_),(4,_,_),(6,_,_),(68,_,_),(69,_,_),(9,_,_),(10,_,_),(70,_,_),(12,_,_),(74,_,_),(75,_,_),(76,_,_),(15,_,_),(80,_,_),(81,_,_),(13, .bool k.1.2,ZB k.1.2),(82, .int .i64 k.1.1,Zf k.1.1)],[(2,_,_),(200,_,_),(201,_,_)]⟩) (fun k=>A.length-k.1.1) ⟨(0,b),Xn _,(Ua b).symm⟩ (fun a w H=>H.weaken ⟨rfl,rfl,rfl,rfl,rfl,rfl,rfl,rfl,rfl,rfl,rfl,rfl,rfl,rfl,rfl,rfl,rfl,trivial⟩ ⟨rfl,rfl,rfl,trivial⟩) ?_;rintro ⟨⟨s,b2⟩,hs,hb2e⟩;dsimp only;dsimp only at hs hb2e;refine Zd ?_;(refine xL 83 ZI ?_<;>refine Zc ?_)
 refine cX ?_ ?_<;>intro hb83
 · first | exact bN hb83|(
 obtain ⟨y,hy⟩:=Zm (show s<A.length by omega);have e5:=Yq (f:=Zf) hy;have hyi:=hAi y (Xb hy);have s6:=ζA (p:=fun y:Int=>Ww n E S F y.toNat u.toNat) hy;have hL:=Zgk l n E S F y.toNat u.toNat hl hn oM oM;rw [show ((y.toNat:Nat):Int)=y by omega,show ((u.toNat:Nat):Int)=u by omega] at hL;dsimp only [K9] at hL;refine Zd ?_;(refine xL 84 (Zv Yb) ?_<;>(refine yL 85 (ZN Ya) fun v85 h=>?_;cases h)<;>refine xL 17 Zb ?_<;>refine Zi ?_)
 (refine xL 86 Za (xL 87 Za ?_)<;>(refine bL 87 (fun hb87=>?_) (fun hb87=>?_)<;>(first|refine kL 88 ?_|(refine yL 88 (ZN YI) fun v88 h=>?_;cases h)))<;>(first|refine kL 89 ?_|refine xL 89 Za ?_)<;>(first|refine kL 90 ?_|refine xL 90 Za ?_)<;>(first|refine kL 91 ?_|(refine cS 91 (cA call63 (hL)) fun v91 h=>?_;cases h))<;>refine xL 92 Zt (xL 13 Zb ?_)<;>refine Zc ?_)<;>(
 (refine Zo ?_<;>refine xL 93 ZH (xL 82 Za ?_)<;>refine Zc ?_)
 first
  | (exact Zh (
      ⟨(s+1,Ww n E S F y.toNat u.toNat),by show s+1≤A.length;omega,by show Ww n E S F y.toNat u.toNat=_;rw [s6,←Bool.and_assoc,←hb2e,hb87,Bool.true_and]⟩
      ) (by show A.length-(s+1)<A.length-s;omega) ⟨rfl,rfl,rfl,rfl,rfl,rfl,rfl,rfl,rfl,rfl,rfl,rfl,rfl,rfl,rfl,rfl,rfl,trivial⟩ ⟨rfl,rfl,rfl,trivial⟩)
  | (exact Zh (
      ⟨(s+1,false),by show s+1≤A.length;omega,by show false=_;rw [s6,←Bool.and_assoc,←hb2e,hb87,Bool.false_and]⟩
      ) (by show A.length-(s+1)<A.length-s;omega) ⟨rfl,rfl,rfl,rfl,rfl,rfl,rfl,rfl,rfl,rfl,rfl,rfl,rfl,rfl,rfl,rfl,rfl,trivial⟩ ⟨rfl,rfl,rfl,trivial⟩)))
 · first|exact bN hb83|(
 refine Zd ?_;(refine xL 94 ZH (xL 76 Za ?_)<;>refine Zc ?_)
 refine Zh (
  ⟨(q+1,b2),by show q+1≤cl.length;omega,by show b2=_;rw [s5,←hbe,hb2e,Xy oM]⟩
  ) (by show cl.length-(q+1)<cl.length-q;omega) ⟨rfl,rfl,rfl,rfl,rfl,rfl,rfl,rfl,rfl,rfl,rfl,rfl,rfl,trivial⟩ ⟨rfl,rfl,rfl,trivial⟩))
 · first | exact bN hb77|(
 refine nav ?_;(have hbo:SJ n E S F cl=b:=by unfold SJ;rw [←hAe,hbe,Xy oM]);(refine Zo ?_<;>refine xL 95 Za ?_<;>refine Zc ?_)
 refine cX ?_ ?_<;>intro hb95
 · first |exact bN hb95|(
 refine Zd ?_;(refine xL 96 Za (xL 97 Za ?_)<;>refine W4 (kk:=1) 98 Kw fun h98 ho98=>?_<;>refine Kd 200 98 99 Kw fun h99 ho99=>?_<;>refine xL 10 Zb ?_<;>refine Zi ?_)
 (refine xL 103 ZH (xL 70 Za ?_)<;>refine Zc ?_)
 try refine Yh (Z5 (l:=99) 200 rfl rfl) fun _=>?_
 try refine Yh (Z5 (l:=102) 201 rfl rfl) fun _=>?_
 try rw [show C.map pInts++[pInts cl]=(C++[cl]).map pInts by simp,show C.length+1=(C++[cl]).length by simp]
 try rw [show D.map Zf++cl.map Zf=(D++cl).map Zf by simp,show D.length+cl.length=(D++cl).length by simp]
 first
  | (exact Zh (
      ⟨(i+1,h99,hdv,C++[cl],D),by show i+1≤cs.length;omega,hod,by show C++[cl]=_;rw [s3,UB (by rw [hbo];exact hb95),hC],by show D=_;rw [s4,UA (by rw [hbo,hb95];decide),Xu,hD]⟩
      ) (by show cs.length-(i+1)<cs.length-i;omega) ⟨rfl,rfl,rfl,rfl,rfl,rfl,rfl,rfl,trivial⟩ ⟨rfl,rfl,rfl,trivial⟩)
  | (exact Zh (
      ⟨(i+1,hc,h102,C,D++cl),by show i+1≤cs.length;omega,ho102,by show C=_;rw [s3,UA (by rw [hbo,hb95];decide),Xu,hC],by show D++cl=_;rw [s4,UB (by rw [hbo,hb95];rfl),hD];simp⟩
      ) (by show cs.length-(i+1)<cs.length-i;omega) ⟨rfl,rfl,rfl,rfl,rfl,rfl,rfl,rfl,trivial⟩ ⟨rfl,rfl,rfl,trivial⟩))
 · first |exact bN hb95|(
 refine Zd ?_;(refine xL 100 Za (xL 101 Za ?_)<;>refine O4 201 102 WF fun h102 ho102=>?_<;>refine xL 9 Zb ?_<;>refine Zi ?_)
 (refine xL 103 ZH (xL 70 Za ?_)<;>refine Zc ?_)
 try refine Yh (Z5 (l:=99) 200 rfl rfl) fun _=>?_
 try refine Yh (Z5 (l:=102) 201 rfl rfl) fun _=>?_
 try rw [show C.map pInts++[pInts cl]=(C++[cl]).map pInts by simp,show C.length+1=(C++[cl]).length by simp]
 try rw [show D.map Zf++cl.map Zf=(D++cl).map Zf by simp,show D.length+cl.length=(D++cl).length by simp]
 first
  | (exact Zh (
      ⟨(i+1,h99,hdv,C++[cl],D),by show i+1≤cs.length;omega,hod,by show C++[cl]=_;rw [s3,UB (by rw [hbo];exact hb95),hC],by show D=_;rw [s4,UA (by rw [hbo,hb95];decide),Xu,hD]⟩
      ) (by show cs.length-(i+1)<cs.length-i;omega) ⟨rfl,rfl,rfl,rfl,rfl,rfl,rfl,rfl,trivial⟩ ⟨rfl,rfl,rfl,trivial⟩)
  | (exact Zh (
      ⟨(i+1,hc,h102,C,D++cl),by show i+1≤cs.length;omega,ho102,by show C=_;rw [s3,UA (by rw [hbo,hb95];decide),Xu,hC],by show D++cl=_;rw [s4,UB (by rw [hbo,hb95];rfl),hD];simp⟩
      ) (by show cs.length-(i+1)<cs.length-i;omega) ⟨rfl,rfl,rfl,rfl,rfl,rfl,rfl,rfl,trivial⟩ ⟨rfl,rfl,rfl,trivial⟩))))
 · first|exact bN hb71|(
 refine nav ?_;have hil:i=cs.length:=oM;(have hCe:C=cs.filter (SJ n E S F):=by rw [hC,hil,XI]);(have hDe:D=A++(cs.filter fun c=> !SJ n E S F c).flatten:=by rw [hD,hil,XI]);(have hDp:0<D.length:=by rw [hDe,Xf];omega);obtain ⟨Ds,hDs⟩:∃Ds,Ds=D.mergeSort fun x y=>decide (x≤y):=⟨_,rfl⟩;(have hDsl:Ds.length=D.length:=by rw [hDs,VT]);have hDi:∀x∈Ds,0≤x∧x<n:=fun x hx=>by
  rw [hDs,WZ,hDe,Xz] at hx;rcases hx with h|h
  · exact hAi x h
  · obtain ⟨d,hd,hxd⟩:=Vm.1 h;exact hBi x (hin.1 d (Vr.1 hd).1 x hxd)
 obtain ⟨rs,hrs⟩:∃rs,rs=Ds::C:=⟨_,rfl⟩;have hrm:∀c∈rs,(∀x∈c,0≤x∧x<l.length)∧c.length≤1000000:=fun c hc=>by
  rw [hrs,Xi] at hc;rw [hl];rcases hc with rfl|h
  · exact ⟨hDi,oM⟩
  · rw [hCe] at h;have hm:=(Vr.1 h).1;exact ⟨fun x hx=>hBi x (hin.1 c hm x hx),by have:=hin.2.2.1 c hm;omega⟩
 (have hrl:rs.length≤1000000:=by rw [hrs,Xg];omega);(have hre:rs=Dw n E S F cs:=by rw [hrs,hDs,hDe,hCe,hAe];rfl);(have e6:(C.map pInts).length=C.length*1:=by rw [Xd,XO]);(have e7:(C.map pInts).all En.one=true:=by rw [List.all_map,Xj];intro x _;rfl);(refine Zo ?_<;>refine xL 104 Za ?_<;>(refine EM 201 Pf (call60) ?_ hDp;rw [←hDs])<;>refine Zc ?_)
 refine ZE (En.freeze (l:=201) (t:=9) rfl rfl) fun _=>?_;rw [JW _ _ _ hDsl.symm];refine ZE (En.freeze (l:=200) (t:=10) rfl rfl) fun _=>?_;rw [Ji _ _ _ rfl];dsimp only [RV];(refine ZM (fun i=>([]:List Nat).elem i) [] kR ?_<;>(refine yD 0 106 rfl (ZN YI) fun v106 h=>?_;cases h)<;>refine xD 1 107 rfl Za ?_<;>refine xD 3 109 rfl Za ?_<;>(refine Zk 2 kR ?_)<;>(refine Zg rfl fun w9 M9 N9 DQ back=>?_)<;>refine W4 (kk:=1) 108 Kw fun h108 ho108=>?_<;>refine Ze (back _ (nrm ?_))<;>(refine Zk 4 kR ?_)<;>(refine Zg rfl fun w9 M9 N9 DQ back=>?_)<;>refine O4 108 110 Kw fun h110 ho110=>?_<;>refine Ze (back _ (nrm ?_))<;>(refine Zk 5 kR ?_)<;>(refine Zg rfl fun w9 M9 N9 DQ back=>?_)<;>(refine ZJ (En.freeze (l:=110) (t:=110) rfl rfl) fun _=>?_;rw [show pInts Ds::C.map pInts=rs.map pInts by rw [hrs];rfl,Ji _ _ _ (by rw [hrs,Xg];omega)];by_cases hm:rs.length<2<;>first|(refine cP 111 (cA call47 (TO l _ 4 rs hm)) fun va111 vb111 hva111 h=>?_;cases h)|(refine cP 111 (cA call47 (Ru l _ 4 rs oM (fun c hc=>(hrm c hc).1) hrl (fun c hc=>(hrm c hc).2))) fun va111 vb111 hva111 h=>?_;cases h))<;>refine Ze (back _ (nrm ?_))<;>refine xD 6 112 rfl Zp ?_<;>refine xE 7 113 rfl Zp ?_<;>(refine Zk 8 kR ?_)<;>(refine Zg rfl fun w9 M9 N9 DQ back=>?_)<;>refine Zw 2 YB ?_<;>refine Ze (back _ (nrm ?_))<;>refine xE 9 3 rfl Zb ?_<;>refine Ym kR (nav ?_)<;>try dsimp only)<;>(
 refine Yn (k:=2) 2 kR (results17) rfl rfl rfl (Xa rfl) dC rfl (.inr ⟨cs,by rw [←hAe];exact Vc.1 hAp,by rw [←hBe];exact hcs,?_⟩);rw [←hre];unfold Dr
 first
  |(rw [UB hm];rfl)
  |(rw [UA hm];rfl))))))
theorem Zd7:ElT prog 39 38 1 8 .nilFunc:=⟨underlying39,by kernel_rfl,rfl,dC⟩
theorem Zd8:NoAgg prog 38=true:=by kernel_rfl
theorem Ea:SlT prog 39 38 1=true:=by kernel_rfl
def Zkz:Option Cut→PV
 |none=> .tup [.agg [Zf 0, .val (.slice none 0 0)],Zf 10]
 |some c=> .tup [EG c,Zf 0]
def Pi (l:List ByteArray) (kind:Int) (cs:List (List Int)):Option Cut:=if cs.length<2 then none else some ⟨kind,K5 l cs⟩
theorem Dx (l:List ByteArray) (kind:Int) (cs:List (List Int)):Dr l kind cs=Zkz (Pi l kind cs):=by
 unfold Dr Pi
 split<;>rfl
def LN:Option Cut→PV
 |none=> .agg [Zf 0, .val (.slice none 0 0)]
 |some c=>EG c
def LO:Option Cut→PV
 |none=>Zf 10
 |some c=>Zf 0
theorem Zcw (o:Option Cut):shD (.tup [LN o,LO o])=true:=by cases o<;>rfl
theorem TQ (o:Option Cut):Zkz o= .tup [LN o,LO o]:=by cases o<;>rfl
def Sq (l:List ByteArray) (n:Nat) (E:Nat→Nat→Bool) (S F:Nat→Bool):Nat→Option Cut→Prop
 |0,o=>∃cs,Comps (upTo n) (ζx E) cs∧o=Pi l 1 cs
 |1,o=>∃cs,SeqCs n (Y9 n E) cs∧o=Pi l 2 cs
 |2,o=>∃cs,Comps (upTo n) (Za0 E) cs∧((idx (W5 S F) cs<0∧o=none)∨∃i0 c0 ds,cs[i0]? =some c0∧idx (W5 S F) cs=(i0:Nat)∧AndCs cs i0 c0 (W5 S F) ds∧o=Pi l 3 ds)
 |_,o=>(inL n S F=[]∧o=none)∨∃cs,inL n S F≠[]∧Comps (Hg n S F) (ζx E) cs∧o=Pi l 4 (Dw n E S F cs)
def Rv (Q:Nat→Option Cut→Prop) (o:Option Cut):Prop:=(∃k c,k<4∧(∀j,j<k→Q j none)∧Q k (some c)∧o=some c)∨((∀j,j<4→Q j none)∧o=none)
theorem Zil (caps:List PV):AF prog 53 [.sl 0 [], .fn 54 caps] (· = .val (.tuple #[])):=fun M w vs hM hlen hv=>by
 obtain ⟨v,fv,rfl⟩:=W7 hlen
 have hS:=hv 0 v _ rfl rfl
 cases hS with
 | emp a c hc ha=>
   refine (Tryz.slices_SortFunc_none (α:=Nat) a c fv w).mono fun e w' ⟨h1,h2⟩=>?_;rw [h1,h2];exact ⟨_,_,fun _=>False,rfl,rfl,Ext.rfl' _, .shr (.val _) (fun _ h=>h),fun b hb=>hb.elim,fun h=>h.elim⟩
 | sl b off n c cs vs' hnc hc hcell hT=>
   refine (Tryz.slices_SortFunc_none (α:=Nat) _ c fv w).mono fun e w' ⟨h1,h2⟩=>?_;rw [h1,h2];exact ⟨_,_,fun _=>False,rfl,rfl,Ext.rfl' _, .shr (.val _) (fun _ h=>h),fun b hb=>hb.elim,fun h=>h.elim⟩
theorem Zd9 (g:Dfg) (l:List ByteArray) (E:Nat→Nat→Bool) (S F:Nat→Bool) (hb:AF prog 46 [KZ g] (· = .tup [K9 l 0 E S F,Zf 0])) (hl:l.length=0):AF prog 15 [KZ g] (fun p=>∃cs,SeqCs 0 (Y9 0 E) cs∧p=Dr l 2 cs):=by
 refine AF.of_body 31 func15 rfl ntmps15 (Xa rfl) ?_
 intro w0 M0 vs hl hv
 obtain ⟨v0,rfl⟩:=YG hl
 clear hl hv
 refine Zd ?_
 (refine Yi 1 4 fun h1=>?_<;>refine ZA [(.int .i64 0),(.slice none 0 0)] 2 2 Ki fun h2=>?_<;>refine xL 3 Zb ?_<;>refine Zi ?_)
 ((refine yL 9 (Zu 1 YA) fun v9 h=>?_;cases h)<;>(refine cP 10 (cA call46 (hb)) fun va10 vb10 hva10 h=>?_;cases h)<;>refine xL 8 Za (xL 11 Zp (xL 12 Zp (xL 4 Zb (xL 5 Zb ?_))))<;>refine Zi ?_)
 (refine xL 13 Za (xL 14 Wg ?_)<;>refine Zc ?_)
 refine cX ?_ ?_<;>intro hb14
 · exfalso;omega
 · refine Zd ?_;(refine xL 17 Za ?_<;>(refine cS 18 (cA call51 (ζq l 0 E (Wv 0 S) (Wv 0 F) hl oM)) fun v18 h=>?_;cases h)<;>refine ZA [(.slice none 0 0)] 1 6 H7 fun h6=>?_<;>refine P5 6 Y' H6 ?_<;>refine Zc ?_)
   refine ZE (G8 (l:=6) (t:=6) (j:=0) rfl X8 rfl) fun _=>?_;dsimp only [Yt,share,List.map,K9];(refine Zo ?_<;>refine xL 19 Za ?_<;>(refine cS 20 (cA call49 ((E5 l _ oM).mono (R':=(· =pInts (upTo 0))) fun p hp=>by rw [hp,hl])) fun v20 h=>?_;cases h)<;>refine xL 21 Lj ?_<;>(refine GN 22 rfl rfl (Xa rfl) rfl (cA call48 (G0 52 [.sptr 0 [E2 0 (Y9 0 E)]] (relS (Y9 0 E)) (upTo 0) (TP 0) (by rw [K1];omega) (call52) (fun x hx y hy=>Zcr 0 (Y9 0 E) x y (W0.1 hx) (W0.1 hy)))) ?_;rintro p' ⟨cs,hcs,rfl⟩;refine ⟨rfl,fun h22 ho22=>?_⟩)<;>refine xL 7 Zb ?_<;>refine Zc ?_)
   have hcn:cs=[]:=Xw (by have:=(Gh hcs).2.1;omega);subst hcn;refine ZE (En.freeze (l:=22) (t:=7) rfl rfl) fun _=>?_;rw [Ji _ _ _ rfl];dsimp only [RV,List.map,Xq];(refine Zo ?_<;>refine xL 23 Za (xL 24 Lj ?_)<;>(refine cS 25 (cA call53 (Zil _)) fun v25 h=>?_;cases h)<;>refine Zi ?_)
   (refine xL 26 Za (xL 27 Za ?_)<;>(refine cP 28 (cA call47 (TO l _ 2 [] dC)) fun va28 vb28 hva28 h=>?_;cases h)<;>refine xL 29 Zp (xL 30 Zp ?_)<;>refine Zw 2 YB ?_<;>refine xL 3 Zb ?_<;>refine Zc ?_)
   exact Yn (k:=2) 2 kR (results15) rfl rfl rfl (Xa rfl) dC rfl ⟨[],⟨⟨[],hcs, .refl _⟩,fun i j a b hij ha hb=>by simp at ha⟩,rfl⟩
theorem Zea (g:Dfg) (l:List ByteArray) (n:Nat) (E:Nat→Nat→Bool) (S F:Nat→Bool) (hb:AF prog 46 [KZ g] (· = .tup [K9 l n E S F,Zf 0])) (hl:l.length=n) (hn:n≤1000):
 (AF prog 14 [KZ g] fun p=>∃i:{o//Sq l n E S F 0 o},p= .tup [LN i.1,LO i.1])∧(AF prog 15 [KZ g] fun p=>∃i:{o//Sq l n E S F 1 o},p= .tup [LN i.1,LO i.1])∧(AF prog 16 [KZ g] fun p=>∃i:{o//Sq l n E S F 2 o},p= .tup [LN i.1,LO i.1])∧(AF prog 17 [KZ g] fun p=>∃i:{o//Sq l n E S F 3 o},p= .tup [LN i.1,LO i.1]):=by
 refine ⟨(Zd0 g l n E S F hb hl hn).mono fun p hp=>?_,?_,(Zd3 g l n E S F hb hl hn).mono fun p hp=>?_,(Za1 g l n E S F hb hl hn).mono fun p hp=>?_⟩
 · obtain ⟨cs,h1,rfl⟩:=hp;exact ⟨⟨_,cs,h1,rfl⟩,by rw [Dx,TQ]⟩
 · rcases VQ n with h0|h0
   · subst h0;refine (Zd9 g l E S F hb hl).mono fun p hp=>?_;obtain ⟨cs,h1,rfl⟩:=hp;exact ⟨⟨_,cs,h1,rfl⟩,by rw [Dx,TQ]⟩
   · refine (Zd1 g l n E S F hb hl hn h0).mono fun p hp=>?_;obtain ⟨cs,h1,rfl⟩:=hp;exact ⟨⟨_,cs,h1,rfl⟩,by rw [Dx,TQ]⟩
 · obtain ⟨cs,h1,⟨h2,rfl⟩|⟨i0,c0,ds,h2,h3,h4,rfl⟩⟩:=hp
   · exact ⟨⟨none,cs,h1, .inl ⟨h2,rfl⟩⟩,rfl⟩
   · exact ⟨⟨_,cs,h1, .inr ⟨i0,c0,ds,h2,h3,h4,rfl⟩⟩,by rw [Dx,TQ]⟩
 · obtain ⟨h2,rfl⟩|⟨cs,h2,h3,rfl⟩:=hp
   · exact ⟨⟨none, .inl ⟨h2,rfl⟩⟩,rfl⟩
   · exact ⟨⟨_, .inr ⟨cs,h2,h3,rfl⟩⟩,by rw [Dx,TQ]⟩
set_option maxHeartbeats 1000000 in
theorem Za2 (g:Dfg) (l:List ByteArray) (n:Nat) (E:Nat→Nat→Bool) (S F:Nat→Bool) (hb:AF prog 46 [KZ g] (· = .tup [K9 l n E S F,Zf 0])) (hl:l.length=n) (hn:n≤1000):AF prog 18 [KZ g] (fun p=>∃o,Rv (Sq l n E S F) o∧p= .tup [LN o,LO o]):=by
 have hG:=Zea g l n E S F hb hl hn
 have hfs:∀k:Nat,k<3→∃f,[PV.fn 14 [],PV.fn 15 [],PV.fn 16 []][k*1]? =some (.fn f [])∧(∀args w,(callFunc f args).run prog w= .ok (.enter f args) w)∧(AF prog f [KZ g] fun p=>∃i:{o//Sq l n E S F k o},p= .tup [LN i.1,LO i.1]):=fun k hk=>by
  match k,hk with
  |0,_=>exact ⟨_,rfl,call14,hG.1⟩
  |1,_=>exact ⟨_,rfl,call15,hG.2.1⟩
  |2,_=>exact ⟨_,rfl,call16,hG.2.2.1⟩
 refine AF.of_body 29 func18 rfl ntmps18 (Xa rfl) ?_
 intro w0 M0 vs hl hv
 obtain ⟨v0,rfl⟩:=YG hl
 clear hl hv
 refine Zd ?_
 (refine Yi 1 4 fun h1=>?_<;>refine ZA [(.int .i64 0),(.slice none 0 0)] 2 2 Ki fun h2=>?_<;>refine xL 3 Zb ?_<;>refine Zi ?_)
 ((refine ZbE (xs:=[_,_,_]) 8 Zd7 rfl rfl (Xa rfl) rfl rfl rfl rfl rfl dC dC rfl ?_;intro h8 ho8;refine ZJ (En.freeze (l:=8) (t:=8) rfl rfl) fun _=>?_)<;>refine xL 9 (ZF Ea) (xL 10 Za ?_)<;>refine Zc ?_)
 refine Zy (ι:={x:Nat//x≤3∧∀j,j<x→Sq l n E S F j none}) (fun k=>⟨[(1,_,_),(2,_,_),(8,_,_),(9,_,_),(10, .int .i64 k.1,Zf k.1)],[(1,_,_),(2,_,_)]⟩) (fun k=>3-k.1) ⟨0,Xn _,fun j hj=>UC hj (Nat.not_lt_zero j)⟩ (fun a w H=>H.weaken ⟨rfl,rfl,rfl,rfl,rfl,trivial⟩ ⟨rfl,rfl,trivial⟩) ?_
 rintro ⟨k,hk,hQ⟩
 dsimp only
 try dsimp only at hk hQ
 refine Zd ?_
 (refine xL 11 ZI ?_<;>refine Zc ?_)
 refine cX ?_ ?_<;>intro hb11
 · first | exact bN hb11|(
 have hk3:k<3:=oM;obtain ⟨f,e1,hfc,hfa⟩:=hfs k hk3;refine Zd ?_;(refine xL 12 (Zv Ea) ?_<;>(refine yL 13 (ZN Zd8) fun v13 h=>?_;cases h)<;>refine xL 5 Zb ?_<;>refine Zi ?_)
 (refine xL 15 Za ?_<;>(refine yL 16 (Zu 1 YA) fun v16 h=>?_;cases h)<;>(refine cPx 17 (J7 (f:=f) (ps:=[]) rfl ⟨_,rfl⟩ hfc rfl hfa) (fun i va17 vb17 hva17 hvb17=>?_) (fun i=>Zcw i.1);rcases i with ⟨_|cc,hq⟩<;>(dsimp only [LN,LO] at hva17 hvb17 ⊢;cases hvb17))<;>refine xL 14 Za (xL 18 Zp (xL 19 Zp ?_))<;>refine ZA [(.int .i64 0),(.slice none 0 0)] 2 6 Ki fun h6=>?_<;>refine Zw 6 YB ?_<;>refine xL 7 Zb ?_<;>refine Zc ?_)<;>(
 (refine Zo ?_<;>refine xL 20 Za (xL 21 Wg ?_)<;>refine Zc ?_)
 refine cX ?_ ?_<;>intro hb21
 · first|exact bN hb21|(
 refine Zd ?_;((refine yL 22 (Zu 6 YB) fun v22 h=>?_;cases h)<;>refine xL 23 Za ?_<;>refine Zw 2 YB ?_<;>refine xL 3 Zb ?_<;>refine Zc ?_)
 first
  |exact UC rfl hb21
  |exact Yn (k:=2) 2 kR (results18) rfl rfl rfl (Xa rfl) dC rfl ⟨some cc, .inl ⟨k,cc,oM,hQ,hq,rfl⟩,rfl⟩)
 · first |exact bN hb21|(
 refine Zd ?_;(refine xL 24 ZH (xL 10 Za ?_)<;>refine Zc ?_)
 refine Zh (
  ⟨k + 1,oM,fun j hj=>by
   rcases Nat.lt_succ_iff_lt_or_eq.1 hj with h|h
   · exact hQ j h
   · rw [h]
     first
      |exact hq
      |exact UC dC hb21⟩
  ) (by show 3-(k+1)<3-k;omega) ⟨rfl,rfl,rfl,rfl,rfl,trivial⟩ ⟨rfl,rfl,trivial⟩)))
 · first|exact bN hb11|(
 refine Zd ?_;((refine yL 25 (Zu 1 YA) fun v25 h=>?_;cases h)<;>(refine cPx 26 (cA call17 hG.2.2.2) (fun i va26 vb26 hva26 hvb26=>?_) (fun i=>Zcw i.1);rcases i with ⟨_|cc,hq⟩<;>(dsimp only [LN,LO] at hva26 hvb26 ⊢;cases hvb26))<;>refine xL 27 Zp (xL 28 Zp ?_)<;>refine Zw 2 YB ?_<;>refine xL 3 Zb ?_<;>refine Zc ?_)<;>(
 have hk3:k=3:=oM;subst hk3
 first
  |exact Yn (k:=2) 2 kR (results18) rfl rfl rfl (Xa rfl) dC rfl ⟨some cc, .inl ⟨3,cc,oM,hQ,hq,rfl⟩,rfl⟩
  |exact Yn (k:=2) 2 kR (results18) rfl rfl rfl (Xa rfl) dC rfl ⟨none, .inr ⟨fun j hj=>(Nat.lt_succ_iff_lt_or_eq.1 hj).elim (hQ j) fun h=>by rw [h];exact hq,rfl⟩,rfl⟩))
end Go.Proofs.YtmkojdfiadbeeaaGreat
namespace Go.Cb
open Go.En
set_option linter.all false
def sumTo:Nat→(Nat→Nat)→Nat
 |0,_=>0
 |n+1,f=>sumTo n f+f n
def marked (n:Nat) (I:Nat→Bool):List Int:=((List.range n).map fun i:Nat=>(i:Int)).filter fun x=>I x.toNat
structure LabOk (n:Nat) (I:Nat→Bool) (r:Int→Int→Bool) (lab:Nat→Nat):Prop where
 le:∀i,i<n→lab i≤i
 inn:∀i,i<n→I i=true→I (lab i)=true
 conn:∀i,i<n→I i=true→Conn (marked n I) r (lab i) i
def good (n:Nat) (I:Nat→Bool) (t:Nat→Nat→Bool) (lab:Nat→Nat) (a b:Nat):Prop:=a≠b→I a=true→I b=true→t a b=true→lab a=lab b
structure LabPass (n:Nat) (I:Nat→Bool) (r:Int→Int→Bool) (t:Nat→Nat→Bool) (lab0 lab:Nat→Nat) (ag:Bool) (a b:Nat):Prop where
 ok:LabOk n I r lab
 les:ag=true→sumTo n lab<sumTo n lab0
 eq:ag=false→lab=lab0∧∀x y,(x<a∧y<n∨x=a∧y<b)→good n I t lab x y
structure Fix (n:Nat) (I:Nat→Bool) (r:Int→Int→Bool) (t:Nat→Nat→Bool) (lab:Nat→Nat):Prop where
 ok:LabOk n I r lab
 st:∀x y,x<n→y<n→good n I t lab x y
theorem E6 {α:Type} {rel:α→α→Prop}:∀{l m:List α},(∀a∈l,∀b∈l,rel a b→¬rel b a)→l.Pairwise rel→m.Pairwise rel→(∀c,c∈l↔c∈m)→l=m
 |[],[],_,_,_,_=>rfl
 |[],b::m,_,_,_,h=>by have:=(h b).2 sM;simp at this
 |a::l,[],_,_,_,h=>by have:=(h a).1 sM;simp at this
 | a ::l,b::m,ha,hl,hm,h=>by
   rw [XE] at hl hm;have hab:a=b:=by
    have h1:=(h a).1 sM;have h2:=(h b).2 sM;rcases Xi.1 h1 with e|e
    · exact e
    · rcases Xi.1 h2 with e2|e2
      · exact e2.symm
      · exact UC (hm.1 a e) (ha a sM b h2 (hl.1 b e2))
   subst hab;have hirr:¬rel a a:=fun hr=>ha a sM a sM hr hr;rw [E6 (fun x hx y hy=>ha x (by simp [hx]) y (by simp [hy])) hl.2 hm.2 fun x=>?_];constructor
   · intro hx;rcases Xi.1 ((h x).1 (by simp [hx])) with e|e
     · subst e;exact UC (hl.1 _ hx) hirr
     · exact e
   · intro hx;rcases Xi.1 ((h x).2 (by simp [hx])) with e|e
     · subst e;exact UC (hm.1 _ hx) hirr
     · exact e
end Go.Cb
namespace Go.Proofs.YtmkojdfiadbeeaaGreat
open Go.RowKit Go.Cb Go.En Tryz
set_option linter.all false
set_option maxRecDepth 100000
end Go.Proofs.YtmkojdfiadbeeaaGreat
namespace Go.En
open Go.RowKit Go.Cb
end Go.En
namespace Go.Proofs.YtmkojdfiadbeeaaGreat
open Go.RowKit Go.Cb Go.En Tryz
set_option linter.all false
set_option maxRecDepth 100000
def Zgt (R:Nat→Nat→Bool) (c d:List Int):Prop:=R (YX c).toNat (YX d).toNat=true
theorem Zgu {l:List Int} {r:Int→Int→Bool} {cs:List (List Int)} (h:Comps l r cs):cs.Pairwise fun c d=>YX c≠YX d:=h.heads.imp fun h=>oM
theorem Zim {n:Nat} {E:Nat→Nat→Bool} {cs out ds:List (List Int)} (hc:Comps (upTo n) (relS (Y9 n E)) cs) (hp:out.Perm cs) (ho:out.Pairwise (Zgt (Y9 n E))) (hd:SeqCs n (Y9 n E) ds):out=ds:=by
 obtain ⟨cs',hc',hp'⟩:=hd.cl
 have e:=hc'.unique hc fun _ _ _ _=>Iff.rfl
 subst e
 have hne:∀{m:List (List Int)},m.Perm cs'→m.Pairwise fun c d=>YX c≠YX d:=fun h=>(h.pairwise_iff (R:=fun c d=>YX c≠YX d) fun h=>Ne.symm h).2 (Zgu hc')
 refine E6 (rel:=fun c d=>YX c≠YX d∧Zgt (Y9 n E) c d) (fun a ha b hb hab hba=>?_) ((hne hp).and ho) ((hne hp').and ?_) fun c=>by rw [hp.mem_iff,hp'.mem_iff]
 · have h0:=JX hc' (hp.mem_iff.1 ha) (hp.mem_iff.1 hb) hab.1;have h1:=hab.2;have h2:=hba.2;unfold Zgt at h1 h2;exact h0 (h1.trans h2.symm)
 · rw [XT];intro i j hi hj hij;have h1:=hd.ord i j _ _ hij (Xp hi) (Xp hj);have h2:=XT.1 (hne hp') i j hi hj hij;have h3:=JX hc' (hp'.mem_iff.1 (XY hi)) (hp'.mem_iff.1 (XY hj)) h2;rw [Ti] at h1;unfold Zgt
   cases hr:Y9 n E (YX ds[i]).toNat (YX ds[j]).toNat with
   |true=>rfl
   | false=>
     exfalso
     cases hr2:Y9 n E (YX ds[j]).toNat (YX ds[i]).toNat with
     |true=>exact h1 ⟨Ne.symm h2,hr2⟩
     |false=>exact h3 (hr.trans hr2.symm)
theorem Zin {α:Type} {p:α→Bool} {l:List α} {i0:Nat} (h:idx p l=i0):(∀j y,j<i0→l[j]? =some y→p y=false)∧∀y,l[i0]? =some y→p y=true:=by
 unfold idx at h
 cases hf:l.findIdx? p with
 |none=>rw [hf] at h;dsimp only at h;omega
 | some i=>
   rw [hf] at h;dsimp only at h;have hi0:i=i0:=oM;subst hi0;rw [VY] at hf;obtain ⟨hi,hp,hlt⟩:=hf;refine ⟨fun j y hj hy=>?_,fun y hy=>?_⟩
   · obtain ⟨hl,rfl⟩:=Xl.1 hy;simpa using hlt j hj
   · obtain ⟨hl,rfl⟩:=Xl.1 hy;exact hp
theorem Zeb {α:Type} {p:α→Bool} {l:List α} (k:Nat) (h:∀j y,j<k→l[j]? =some y→p y=false):(l.take k).filter p=[]:=List.filter_eq_nil_iff.2 fun x hx=>by
 obtain ⟨j,hj⟩:=XP hx
 have hjl:=Zj hj
 rw [XF] at hjl
 rw [XZ oM] at hj
 rw [h j x oM hj];decide
theorem Eb {i0:Nat} {W:List Int→Bool} {cs:List (List Int)} (hW:∀y,cs[i0]? =some y→W y=true):∀k,k≤cs.length→selA i0 W false (cs.take k)=(cs.take k).filter fun c=> !W c
 |0,_=>by simp [selA]
 | k+1,hk=>by
   obtain ⟨c,hc⟩:=Zm (show k<cs.length by omega);rw [Si hc,Sj hc,Eb hW k oM];congr 1;by_cases h:W c=false
   · rw [UB ⟨fun e=>by subst e;rw [hW c hc] at h;exact Bool.noConfusion h,h⟩,UB (by rw [h];rfl)]
   · rw [UA (fun hh=>h hh.2),UA (by simpa using h)]
theorem ζB {i0:Nat} {W:List Int→Bool} {cs:List (List Int)} {c0:List Int} (h0:cs[i0]? =some c0) (hW:W c0=true) (hpre:∀j y,j<i0→cs[j]? =some y→W y=false):∀k,k≤cs.length→(cs.take k).filter W=(if i0<k then [c0] else [])++selA i0 W true (cs.take k)
 |0,_=>by simp [selA]
 | k +1,hk=>by
   obtain ⟨c,hc⟩:=Zm (show k<cs.length by omega);have hb:k≤i0→selA i0 W true (cs.take k)=[]:=fun hk0=>List.eq_nil_iff_forall_not_mem.2 fun x hx=>by
    have hm:=Dv hx;have:=Zeb (p:=W) (l:=cs) k fun j y hj=>hpre j y oM;have h2:x∈(cs.take k).filter W:=Vr.2 hm;rw [this] at h2;exact List.not_mem_nil h2
   rw [Si hc,Sj hc,ζB h0 hW hpre k oM];rcases Vz k i0 with h|h|h
   · have hw:=hpre k c h hc;rw [UA (show ¬i0<k by omega),UA (show ¬i0<k+1 by omega),UA (show ¬W c=true by rw [hw];decide),UA (fun hh=>by rw [hw] at hh;exact Bool.noConfusion hh.2)];simp
   · subst h;rw [h0] at hc;cases hc;rw [hb (Xc _),UA (show ¬k<k by omega),UB (show k<k+1 by omega),UB hW,UA (fun hh=>hh.1 rfl)];simp
   · rw [UB h,UB (show i0<k+1 by omega)];by_cases hw:W c=true
     · rw [UB hw,UB ⟨oM,hw⟩];simp
     · rw [UA hw,UA (fun hh=>hw hh.2)];simp
theorem Sk {α:Type} (p:α→Bool):∀l:List α,(l.filter p++l.filter fun x=> !p x).Perm l
 |[]=> .refl _
 | a::l=>by
   cases h:p a with
   |true=>rw [VV h,VU (by rw [h];decide)];exact (Sk p l).cons a
   |false=>rw [VU (by rw [h];decide),VV (by rw [h];rfl)];exact List.perm_middle.trans ((Sk p l).cons a)
theorem Ec {α:Type} {l m:List (List α)} (h:l.Perm m):l.flatten.Perm m.flatten:=by
 induction h with
 |nil=>exact .refl _
 |cons x _ ih=>rw [XR,XR];exact ih.append_left x
 | swap x y l=>
   rw [XR,XR,XR,XR,←XM,←XM];exact List.perm_append_comm.append_right _
 |trans _ _ h1 h2=>exact h1.trans h2
structure Fine (c:Cut) (P:List (List ByteArray)):Prop where
 len:c.parts.length≤P.length
 ok:∀p∈P,∃s0,p[0]? =some s0∧0≤partOf c.parts s0∧∀s∈p,hasStr (c.parts[(partOf c.parts s0).toNat]?.getD []) s=true
 ord:c.kind=2→∀(k:Nat) p q s t,P[k]? =some p→P[k+1]? =some q→p[0]? =some s→q[0]? =some t→partOf c.parts s≤partOf c.parts t
end Go.Proofs.YtmkojdfiadbeeaaGreat
namespace Go.Cb
open Go.En
set_option linter.all false
def YD (parts:List (List ByteArray)) (ps:List Piece) (s:ByteArray):List Piece:=match ps[ps.length-1]? with
 |none=>[⟨partOf parts s,[s]⟩]
 |some q=>if q.part=partOf parts s then ps.set (ps.length-1) ⟨q.part,q.word++[s]⟩ else ps++[⟨partOf parts s,[s]⟩]
def Tj (parts:List (List ByteArray)) (ps:List Piece) (ws:List ByteArray):List Piece:=ws.foldl (YD parts) ps
def Jm:List Piece→Bool
 |p::q::l=>(p.part==0||q.part==0)&&Jm (q::l)
 |_=>true
theorem ζC {l:List Piece} {q:Piece}:∀(m:List Piece),Jm (l++m)=true→Jm l=true:=by
 intro m
 induction l with
 |nil=>intro _;rfl
 | cons p l ih=>
   intro h
   cases l with
   |nil=>rfl
   | cons p' l=>
     simp only [XX,Jm,Xe] at h ⊢;exact ⟨h.1,ih (by simpa using h.2)⟩
theorem Ed:∀(l:List Piece) (p q:Piece),Jm (l++[p,q])=(Jm (l++[p])&&(p.part==0||q.part==0))
 |[],p,q=>by simp [Jm]
 |[a],p,q=>by simp [Jm,Bool.and_comm]
 | a::b::l,p,q=>by
   simp only [XX,Jm];have:=Ed (b::l) p q;simp only [XX] at this;rw [this,Bool.and_assoc]
theorem Dy:∀(l:List Piece) (p p':Piece),p.part=p'.part→Jm (l++[p])=Jm (l++[p'])
 |[],_,_,_=>rfl
 |[a],p,p',h=>by simp [Jm,h]
 | a::b::l,p,p',h=>by
   simp only [XX,Jm];have:=Dy (b::l) p p' h;simp only [XX] at this;rw [this]
theorem SK {α:Type} {l:List α} {x:α} (h:l[l.length-1]? =some x):∃m,l=m++[x]:=by
 have hl:=(Xl.1 h).1
 refine ⟨l.take (l.length-1),?_⟩
 have h1:=ZW h
 rw [show l.length-1+1=l.length by omega,XI] at h1
 exact h1
theorem Rw {α:Type} (m:List α) (x y:α):(m++[x]).set ((m++[x]).length-1) y=m++[y]:=by
 have:(m++[x]).length-1=m.length:=sM
 rw [this,Vk _ _ (Xc _),X6];rfl
theorem Zgv {α:Type} (m:List α) (x:α):(m++[x])[(m++[x]).length-1]? =some x:=by
 have:(m++[x]).length-1=m.length:=sM
 rw [this,Vh (Xc _),X6];rfl
theorem ζD {parts:List (List ByteArray)} {ps:List Piece} {s:ByteArray} (h:Jm ps=false):Jm (YD parts ps s)=false:=by
 unfold YD
 split
 · rename_i hn
   cases ps with
   |nil=>cases h
   |cons p ps=>simp at hn
 · rename_i q hq;obtain ⟨m,rfl⟩:=SK hq;split
   · rw [Rw,←Dy m q ⟨q.part,q.word++[s]⟩ rfl];exact h
   · cases h1:Jm (m++[q]++[⟨partOf parts s,[s]⟩])
     · rfl
     · rw [ζC (q:=q) _ h1] at h;cases h
theorem ζE {parts:List (List ByteArray)}:∀(ws:List ByteArray) (ps:List Piece),Jm ps=false→Jm (Tj parts ps ws)=false
 |[],ps,h=>h
 |s::ws,ps,h=>ζE ws _ (ζD h)
theorem Le {parts:List (List ByteArray)}:∀(ws:List ByteArray) (ps:List Piece),Jm ps=true→Kb parts ps ws=if Jm (Tj parts ps ws) then some (Tj parts ps ws) else none
 |[],ps,h=>by simp [Kb,Tj,h]
 | s :: ws, ps,h=>by
   rw [Kb];show _=if Jm (Tj parts (YD parts ps s) ws) then some (Tj parts (YD parts ps s) ws) else none;unfold pieceStep;have hrs:YD parts ps s=YD parts ps s:=rfl
   cases hq:ps[ps.length-1]? with
   | none=>
     (have:YD parts ps s=[⟨partOf parts s,[s]⟩]:=by unfold YD;rw [hq]);rw [this];exact Le ws _ rfl
   | some q =>
     obtain ⟨m,rfl⟩:=SK hq;simp only [];by_cases h1:q.part=partOf parts s
     · (have:YD parts (m++[q]) s=(m++[q]).set ((m++[q]).length-1) ⟨q.part,q.word++[s]⟩:=by unfold YD;rw [hq];simp [h1]);rw [UB h1,this];refine Le ws _ ?_;rw [Rw,←Dy m q ⟨q.part,q.word++[s]⟩ rfl];exact h
     · (have :YD parts (m++[q]) s=m++[q]++[⟨partOf parts s,[s]⟩]:=by unfold YD;rw [hq];simp [h1]);rw [UA h1,this];have ha:Jm (m++[q]++[⟨partOf parts s,[s]⟩])=(Jm (m++[q])&&(q.part==0||partOf parts s==0)):=by
        rw [XM];exact Ed m q _
       by_cases h2:partOf parts s≠0∧q.part≠0
       · rw [UB h2];(have hb:Jm (m++[q]++[⟨partOf parts s,[s]⟩])=false:=by rw [ha];simp [h2.1,h2.2]);rw [ζE ws _ hb];rfl
       · rw [UA h2];refine Le ws _ ?_;rw [ha,h];simp;by_cases h3:q.part=0
         · exact .inl h3
         · right
           by_cases h4:partOf parts s=0
           · exact h4
           · exact UC ⟨h4,h3⟩ h2
def W1 (ps:List Piece) (i:Nat):Bool:=match ps[i]? with
 |none=>false
 |some p=>p.part !=0&&(i==0||i==ps.length-1||match ps[i+1]? with|some q=>q.part !=0|none=>false)
def Ks (ps:List Piece):Bool:=(List.range ps.length).all fun i=> !W1 ps i
theorem Zcx:∀(ps:List Piece),Jm ps=true↔∀i p q,ps[i]? =some p→ps[i+1]? =some q→p.part=0∨q.part=0
 |[]=>by simp [Jm]
 |[p]=>by simp [Jm]
 | p ::q::l=>by
   rw [Jm,Xe,Zcx (q::l)];constructor
   · rintro ⟨h1,h2⟩ i a b ha hb
     cases i with
     |zero=>simp at ha hb;subst ha hb;simpa using h1
     |succ i=>exact h2 i a b (by simpa using ha) (by simpa using hb)
   · intro h;refine ⟨by simpa using h 0 p q rfl rfl,fun i a b ha hb=>h (i+1) a b (by simpa using ha) (by simpa using hb)⟩
theorem Zgw {ps:List Piece} (h0:ps≠[]):Ks ps=(Jm ps&&endsB ps):=by
 have hlen:0<ps.length:=by cases ps with|nil=>exact UC rfl h0|cons=>simp
 obtain ⟨a,ha⟩:=Zm hlen
 obtain ⟨b,hb⟩:=Zm (show ps.length-1<ps.length by omega)
 have hends:endsB ps=(a.part==0&&b.part==0):=by unfold endsB;rw [ha,hb]
 rw [Vy,Xe,Zcx,hends]
 unfold Ks
 rw [Xj]
 constructor
 · intro h;have key:∀i p,ps[i]? =some p→p.part≠0→i≠0∧i≠ps.length-1∧∀q,ps[i+1]? =some q→q.part=0:=fun i p hp hne=>by
    have h1:=h i (XV.2 (Zj hp));unfold W1 at h1;rw [hp] at h1;simp [hne] at h1;refine ⟨h1.1.1,h1.1.2,fun q hq=>?_⟩;have:=h1.2;rw [hq] at this;simpa using this
   refine ⟨fun i p q hp hq=>?_,?_⟩
   · by_cases hz:p.part=0
     · exact .inl hz
     · exact .inr ((key i p hp hz).2.2 q hq)
   · simp;constructor
     · by_cases hz:a.part=0
       · exact hz
       · exact UC rfl (key 0 a ha hz).1
     · by_cases hz:b.part=0
       · exact hz
       · exact UC rfl (key _ b hb hz).2.1
 · rintro ⟨h1,h2⟩ i hi;simp at h2;unfold W1
   cases hp:ps[i]? with
   |none=>rfl
   | some p=>
     by_cases hz:p.part=0
     · simp [hz]
     · (have e1:i≠0:=fun e=>by subst e;rw [ha] at hp;cases hp;exact hz h2.1);(have e2:i≠ps.length-1:=fun e=>by subst e;rw [hb] at hp;cases hp;exact hz h2.2);simp [hz,e1,e2]
       cases hq:ps[i+1]? with
       |none=>rfl
       |some q=>simpa using (h1 i p q hp hq).resolve_left hz
theorem Zcy {parts:List (List ByteArray)}:∀(ws:List ByteArray) (ps:List Piece),ps≠[]→Tj parts ps ws≠[]
 |[],ps,h=>h
 | s ::ws,ps,h=>Zcy ws _ (by
   unfold YD;split
   · simp
   · split
     · intro e;exact h (by simpa using e)
     · simp)
theorem Za3 {parts:List (List ByteArray)} {ps:List Piece} {s:ByteArray}:YD parts ps s≠[]:=by
 unfold YD
 split
 · simp
 · rename_i q hq;split
   · intro e;(have:ps=[]:=by simpa using e);subst this;simp at hq
   · simp
theorem Hh {parts:List (List ByteArray)} {ws:List ByteArray} (h:ws≠[]):Lq parts ws=if Ks (Tj parts [] ws) then some (Tj parts [] ws) else none:=by
 have hne:Tj parts [] ws≠[]:=by
  cases ws with
  |nil=>exact UC rfl h
  |cons s ws=>exact Zcy ws _ Za3
 unfold Lq
 rw [UA h,Le ws [] rfl,Zgw hne]
 cases h1:Jm (Tj parts [] ws)
 · simp
 · simp
theorem Pj {parts:List (List ByteArray)} {ws:List ByteArray} {k:Nat} {s:ByteArray} (h:ws[k]? =some s):Tj parts [] (ws.take (k+1))=YD parts (Tj parts [] (ws.take k)) s:=by
 unfold Tj
 rw [ZW h,Ut];rfl
theorem E7 {parts:List (List ByteArray)} {ps:List Piece} {s:ByteArray}:∃m w,YD parts ps s=m++[⟨partOf parts s,w⟩]:=by
 unfold YD
 split
 · exact ⟨[],_,rfl⟩
 · rename_i q hq;obtain ⟨m,rfl⟩:=SK hq;split
   · rename_i h;rw [Rw,h];exact ⟨m,_,rfl⟩
   · exact ⟨_,_,rfl⟩
def E8 (q:Piece):List PV:=[Zf q.part,ZT q.word]
def Ov (ps:List Piece):PV:= .sl ps.length (ps.flatMap E8)
def ZY (e:Nat) (q:Piece):List PV:=[Zf q.part, .own e 1 q.word.length (q.word.map ZD)]
theorem Dz (q:Piece):(E8 q).length=2:=rfl
theorem Yj (e:Nat) (q:Piece):(ZY e q).length=2:=rfl
theorem Za4 (l:List ByteArray):Yt (l.map ZD)=l.map ZD:=by
 rw [Z7,Xt];rfl
theorem Su (l m:List PV):Yt (l++m)=Yt l++Yt m:=by rw [Z7,Z7,Z7,X1]
theorem Sv (e:Nat) (ps:List Piece):Yt (ps.flatMap (ZY e))=ps.flatMap E8:=by
 induction ps with
 |nil=>simp [Yt]
 | cons q ps ih=>
   rw [Xo,Xo,Su,ih];congr 1;simp [ZY,E8,Yt,share,Za4,ZT]
theorem Gi {α β:Type} {f:α→List β} {k:Nat} (hf:∀x,(f x).length=k):∀(l:List α) (i j:Nat) (x y:α) (b:β),l[i]? =some x→j<k→(f x).set j b=f y→(l.flatMap f).set (i*k+j) b=(l.set i y).flatMap f
 |[],i,j,x,y,b,h,_,_=>by simp at h
 | z::l,0,j,x,y,b,h,hj,he=>by
   simp at h;subst h;rw [Ve,Xx,Xo,List.set_append_left _ _ (by rw [hf];exact hj),he];rfl
 | z::l,i+1,j,x,y,b,h,hj,he=>by
   rw [Xo,Vk _ _ (by rw [hf,XW];omega),hf,show (i+1)*k+j-k=i*k+j by rw [XW];omega,Gi hf l i j x y b (by simpa using h) hj he];rfl
end Go.Cb
namespace Go.Proofs.YtmkojdfiadbeeaaGreat
open Go.RowKit Go.Cb Go.En Tryz
set_option linter.all false
set_option maxRecDepth 100000
theorem PU:AggT prog 114 2=true:=by kernel_rfl
theorem G1:ElT prog 110 114 2 32 (.agg #[(.int .i64 0),(.slice none 0 0)]):=⟨underlying110,by kernel_rfl,rfl,dC⟩
theorem Kx:ElT prog 26 9 1 16 (.string ByteArray.empty):=⟨underlying26,by kernel_rfl,rfl,dC⟩
theorem JE:FldT prog 114 0 0=true:=by kernel_rfl
theorem We:FldT prog 114 1 1=true:=by kernel_rfl
theorem Wa:MpT prog 78 9 3 .string (.int .i64 0):=⟨underlying78,underlying9, .inl rfl,by show ZeroT _ _ _;unfold ZeroT;kernel_rfl⟩
theorem YF:NoAgg prog 26=true:=by kernel_rfl
theorem TR:NoAgg prog 3=true:=by kernel_rfl
theorem Wb:NoAgg prog 78=true:=by kernel_rfl
theorem LP:NoAgg prog 9=true:=by kernel_rfl
theorem Z':SlT prog 110 114 2=true:=by kernel_rfl
theorem KT:SlT prog 26 9 1=true:=by kernel_rfl
theorem SL:K6 prog 114=some ((.agg #[(.int .i64 0),(.slice none 0 0)]),([0,1]:List Nat).map fun o=>(o,1)):=by kernel_rfl
theorem LQ:(prog.info? 26).map (·.size)=some 1:=by kernel_rfl
theorem DC:(prog.info? 3).map (·.size)=some 1:=by kernel_rfl
theorem Za5:ZeroT prog 114 (.agg #[(.int .i64 0),(.slice none 0 0)]):=by unfold ZeroT;kernel_rfl
theorem Tl {es:List (ByteArray×Value)} {s:ByteArray} {n:Int} (h:Y6 es s=some (.int .i64 n)):(Wc (skv es) (.string s)).getD (.int .i64 0)= .int .i64 n:=by rw [Jr,h];rfl
theorem Zec (parts:List (List ByteArray)) (ws:List ByteArray) (es:List (ByteArray×Value)) (s s0:ByteArray) (h0:ws[0]? =some s0) (hes:∀t∈ws,Y6 es t=some (.int .i64 (partOf parts t))) (hs:s∈ws):
 AF prog 111 [ZD s, .sptr 0 [.smap (skv es)], .sptr 0 [ZT ws]] (· =ZB (partOf parts s !=partOf parts s0)):=by
 have hlen:0<ws.length:=by have:=Zj h0;omega
 have m1:=Tl (hes s hs)
 have m2:=Tl (hes s0 (Xb h0))
 have e1:(ws.map ZD)[(0:Int).toNat*1]? =some (ZD s0):=Yq h0
 refine AF.of_body 14 func111 rfl ntmps111 (Xa rfl) ?_
 intro w0 M0 vs hl hv
 obtain ⟨v0,v1,v2,rfl⟩:=RI hl
 obtain rfl:=hv 0 _ _ rfl rfl
 clear hl hv
 refine Zd ?_
 (refine xL 4 Zb ?_<;>refine Zc ?_)
 (refine ZM (fun i=>([]:List Nat).elem i) [] kR ?_<;>(refine yD 0 5 rfl (ZN Wb) fun v5 h=>?_;cases h)<;>refine xD 1 6 rfl Za ?_<;>refine xD 2 7 rfl (Kk Wa) ?_<;>(refine yD 3 8 rfl (ZN Wb) fun v8 h=>?_;cases h)<;>(refine yE 4 9 rfl (ZN YF) fun v9 h=>?_;cases h)<;>refine xE 5 10 rfl (Zv KT) ?_<;>(refine yE 6 11 rfl (ZN LP) fun v11 h=>?_;cases h)<;>refine xE 7 12 rfl (Kk Wa) ?_<;>refine xE 8 13 rfl Wg ?_<;>refine xE 9 4 rfl Zb ?_<;>refine Ym kR (nav ?_)<;>try dsimp only)
 refine Zl (results111) rfl ?_
 congr 2
 by_cases h:partOf parts s=partOf parts s0<;>simp [h]
def ZjR (x:Option (List Piece)) (p:PV):Prop:=match x with
 |none=>p= .tup [.val (.slice none 0 0),ZB false]
 |some ps=>p= .tup [Ov ps,ZB true]
def G2 (parts:List (List ByteArray)) (ws:List ByteArray) (k:Nat):List Piece:=if k=0 then [⟨0,[]⟩] else Tj parts [] (ws.take k)
theorem ζF {parts:List (List ByteArray)}:∀(ws:List ByteArray) (ps:List Piece),(Tj parts ps ws).length≤ps.length+ws.length∧∀n,(∀p∈ps,p.word.length≤n)→∀p∈Tj parts ps ws,p.word.length≤n+ws.length
 |[],ps=>⟨by simp [Tj],fun n h p hp=>by have:=h p hp;simpa using this⟩
 | s :: ws,ps=>by
   have hst:(YD parts ps s).length≤ps.length+1∧∀n,(∀p∈ps,p.word.length≤n)→∀p∈YD parts ps s,p.word.length≤n+1:=by
    unfold YD;split
    · exact ⟨sM,fun n _ p hp=>by simp at hp;subst hp;simp⟩
    · rename_i q hq;split
      · refine ⟨sM,fun n h p hp=>?_⟩;rcases Vq hp with h1|h1
        · have:=h p h1;omega
        · rw [h1];have:=h q (Xb hq);simp;omega
      · refine ⟨sM,fun n h p hp=>?_⟩;rcases Xz.1 hp with h1|h1
        · have:=h p h1;omega
        · simp at h1;subst h1;simp
   obtain ⟨h1,h2⟩:=ζF (parts:=parts) ws (YD parts ps s);have h3:=hst.1;refine ⟨by show (Tj parts (YD parts ps s) ws).length≤_;rw [Xg];omega,fun n h p hp=>?_⟩;have:=h2 (n+1) (hst.2 n h) p hp;rw [Xg];omega
theorem ζG (parts:List (List ByteArray)) (ws:List ByteArray) (k:Nat) (hk:k≤ws.length):(G2 parts ws k).length≤k+1∧∀p∈G2 parts ws k,p.word.length≤k:=by
 unfold G2
 split
 · exact ⟨sM,fun p hp=>by simp at hp;subst hp;simp⟩
 · obtain ⟨h1,h2⟩:=ζF (parts:=parts) (ws.take k) [];have hl:(ws.take k).length=k:=by simp;omega
   rw [hl] at h1 h2;exact ⟨by simp at h1;omega,fun p hp=>by have:=h2 0 sM p hp;omega⟩
theorem Zed {parts:List (List ByteArray)} {ws:List ByteArray} {k:Nat} {y:ByteArray} (hk:0<k) (hy:ws[k-1]? =some y):∃m w,G2 parts ws k=m++[⟨partOf parts y,w⟩]:=by
 unfold G2
 rw [UA oM]
 have:=Pj (parts:=parts) hy
 rw [show k-1+1=k by omega] at this
 rw [this]
 exact E7
theorem Zee {parts:List (List ByteArray)} {ws:List ByteArray} {k:Nat} {s:ByteArray} (hs:ws[k]? =some s) (hk:0<k):G2 parts ws (k+1)=YD parts (G2 parts ws k) s:=by
 unfold G2
 rw [UA oM,UA oM]
 exact Pj hs
theorem Zgx {parts:List (List ByteArray)} {ws:List ByteArray} {s:ByteArray} (hs:ws[0]? =some s):G2 parts ws 1=[⟨partOf parts s,[s]⟩]:=by
 unfold G2
 rw [UA oM,show (1:Nat)=0+1 from rfl,Pj hs]
 rfl
theorem ZjS {α β:Type} {zs:List β} {n i:Nat} {p:β} (f:α→β) (h:(List.replicate n zs).flatten[i]? =some p):i / zs.length<n∧zs[i % zs.length]? =some p∧i=i / zs.length*zs.length+i % zs.length:=by
 have hi:=Zj h
 have hl:(List.replicate n zs).flatten.length=n*zs.length:=sM
 rw [hl] at hi
 have hz:0<zs.length:=by
  rcases VQ zs.length with h0|h0
  · rw [h0] at hi;omega
  · exact h0
 have hdiv:i / zs.length<n:=by rw [Uh hz];exact hi
 have hmod:i % zs.length<zs.length:=Nat.mod_lt _ hz
 have he:i=i / zs.length*zs.length+i % zs.length:=by rw [Vl];exact (VP _ _).symm
 refine ⟨hdiv,?_,he⟩
 have h2:=WU (f:=fun _:Nat=>zs) (k:=zs.length) (fun _=>rfl) (l:=List.range n) (i:=i / zs.length) (x:=i / zs.length) (by simp [hdiv]) (j:=i % zs.length) hmod
 rw [←he,show (List.range n).flatMap (fun _=>zs)=(List.replicate n zs).flatten by rw [List.flatMap_def,List.map_const',V3],h] at h2
 exact h2.symm
theorem Zef (n e:Nat):∀(i:Nat) (p p':PV),(List.replicate n (List.map PV.val [.int .i64 0, .slice none 0 0])).flatten[i]? =some p→((List.replicate n (⟨0,[]⟩:Piece)).flatMap (ZY e))[i]? =some p'→ZbI p p':=fun i p p' h1 h2=>by
 obtain ⟨hd,hz,he⟩:=ZjS (fun x:Nat=>p) h1
 simp only [Xd,Xg,Xq] at hd hz he
 have hm:i % 2<2:=Nat.mod_lt _ dC
 rw [show (0+1+1:Nat)=2 from rfl] at hd hz he
 have h3:=WU (Yj e) (l:=List.replicate n (⟨0,[]⟩:Piece)) (i:=i / 2) (x:=⟨0,[]⟩) (by rw [List.getElem?_replicate,UB hd]) (j:=i % 2) hm
 rw [←he,h2] at h3
 generalize i % 2=r at hz h3 hm
 match r,hz,h3 with
 |0,hz,h3=>simp [ZY] at hz h3;exact .inl (h3.trans hz)
 |1,hz,h3=>simp [ZY] at hz h3;exact .inr ⟨hz.symm,_,_,h3⟩
 |r+2,_,_=>omega
set_option maxHeartbeats 1000000 in
theorem Zgy (c :Cut) (ws:List ByteArray) (es:List (ByteArray×Value)) (hes:∀t∈ws,Y6 es t=some (.int .i64 (partOf c.parts t))) (hin:∀t∈ws,0≤partOf c.parts t) (hlen:ws.length≤1000) (hn0:0<c.parts.length) (hn1:c.parts.length≤1000000) (hk1:1≤c.kind) (hk4:c.kind≤4):
 AF prog 66 [ZT ws,Zf c.kind,Zf c.parts.length, .smap (skv es)] (ZjR (Y1 c ws)):=by
 refine AF.of_body 185 func66 rfl ntmps66 (Xa rfl) ?_
 intro w0 M0 vs hl hv
 obtain ⟨v0,v1,v2,v3,rfl⟩:=ZkI hl
 obtain rfl:=hv 1 _ _ rfl rfl
 obtain rfl:=hv 2 _ _ rfl rfl
 clear hl hv
 refine Zd ?_
 (refine Zfj 4 fun h4=>?_<;>refine Zfj 7 fun h7=>?_<;>refine xL 8 Zb (xL 9 Zb ?_)<;>refine Zi ?_)
 (refine xL 19 Za ?_<;>refine Zi ?_)
 (refine xL 21 ZU (xL 20 Zb ?_)<;>refine Zc ?_)
 refine ZZ rfl ?_ ?_
 · intro hb;have hk:c.kind=1:=UD hb;refine Zd ?_;((refine yL 22 (Zr 4 YF) fun v22 h=>?_;cases h)<;>refine xL 23 (ZF KT) (xL 24 ZU (xL 25 Za ?_))<;>(refine bLd 25 (fun hb25=>?_) (fun hb25=>?_)<;>(first|refine kL 26 ?_|(refine yL 26 (Zr 4 YF) fun v26 h=>?_;cases h)))<;>(first|refine kL 27 ?_|refine xL 27 Lj ?_)<;>(first|refine kL 28 ?_|(have hcl:ws≠[]:=(fun e=>by subst e;exact hb25 rfl);refine (Zm (show 0<ws.length by cases ws with|nil=>exact UC rfl hcl|cons=>simp)).elim fun s0 hs0=>?_;refine Oz 28 rfl rfl (Xa rfl) (Ze9 rfl (call27) (ps:=[ZT ws, .fn 111 [.sptr 0 [.smap (skv es)], .sptr 0 [ZT ws]]]) ⟨⟨_,_,rfl,JM (x:= .tmp 26) rfl⟩,⟨_,_,rfl,Zde (l1:=7) (l2:=4) rfl rfl rfl rfl⟩,trivial⟩ (Ky 111 _ (fun s=>partOf c.parts s !=partOf c.parts s0) ws (call111) (fun s hs=>Zec c.parts ws es s s0 hs0 hes hs)) (fun p hp=>by rw [hp];rfl)) ?_;rintro p' rfl;refine ⟨rfl,?_⟩;intro v28 hv28;cases hv28))<;>refine xL 29 Zt ?_<;>refine Zc ?_)
   · have h0:ws=[]:=Xw oM;refine ZZ rfl ?_ (fun h=>by cases h);intro _;refine Zd ?_;(refine xL 8 Zb (xL 9 Zb ?_)<;>refine Zc ?_)
     refine YO (results66) rfl rfl ?_;rw [h0,P7 hk];rfl
   · obtain ⟨l,rfl⟩:∃l,ws=s0::l:=by
      cases ws with
      |nil=>simp at hs0
      |cons a b=>simp at hs0;subst hs0;exact ⟨b,rfl⟩
     have hsp:=ζm (l:=l) hk (hin s0 sM);refine ZZ rfl ?_ ?_
     · intro hb3;refine Zd ?_;(refine xL 8 Zb (xL 9 Zb ?_)<;>refine Zc ?_)
       refine YO (results66) rfl rfl ?_;rw [hsp,hb3];rfl
     · intro hb3;have m2:=Tl (hes s0 sM);have e1:((s0::l).map ZD)[(0:Int).toNat*1]? =some (ZD s0):=rfl;refine nav ?_;(refine ZM (fun i=>([]:List Nat).elem i) [4,7] kR ?_<;>(refine yD 0 30 rfl (Zr 7 Wb) fun v30 h=>?_;cases h)<;>(refine yD 1 31 rfl (Zr 4 YF) fun v31 h=>?_;cases h)<;>refine xD 2 32 rfl (Zv KT) ?_<;>(refine yD 3 33 rfl (ZN LP) fun v33 h=>?_;cases h)<;>refine xD 4 34 rfl (Kk Wa) ?_<;>(refine yE 5 35 rfl (Zr 4 YF) fun v35 h=>?_;cases h)<;>refine xE 6 36 rfl (ZO SL) ?_<;>(refine Zk 7 kR ?_)<;>(refine Zg rfl fun w9 M9 N9 DQ back=>?_)<;>refine Ju 37 G1 fun h37 ho37=>?_<;>refine Ze (back _ (nrm ?_))<;>refine xE 8 8 rfl Zb ?_<;>refine xE 9 9 rfl Zb ?_<;>refine Ym kR (nav ?_)<;>try dsimp only)
       refine YP (En.freeze (l:=37) (t:=8) rfl rfl) fun _=>?_;refine YO (results66) rfl rfl ?_;rw [hsp,hb3];rfl
 · intro hb;have hk:c.kind≠1:=UE hb;refine Zd ?_;(refine xL 39 ZU (xL 38 Zb ?_)<;>refine Zc ?_)
   refine ZZ rfl ?_ ?_
   · intro hb2;have hk':c.kind=4:=UD hb2;refine Zd ?_;(refine xL 40 (ZO SL) ?_<;>refine Ju 41 G1 fun h41 ho41=>?_<;>refine xL 10 Zb ?_<;>refine Zc ?_)
     refine ZE (S6 (l:=41) ([⟨0,[]⟩].flatMap (ZY 9)) rfl rfl (fun i p p' h1 h2=>by
      match i with
      |0=>simp [ZY,Sx] at h1 h2;exact .inl (h2.symm.trans h1)
      |1=>simp [ZY,Sx] at h1 h2;exact .inr ⟨h1.symm,_,_,h2.symm⟩
      |i+2=>simp [ZY] at h2)) fun _=>?_
     (refine Zo ?_<;>(refine yL 42 (Zr 4 YF) fun v42 h=>?_;cases h)<;>refine xL 43 (ZF KT) (xL 44 Za ?_)<;>refine Zc ?_)
     refine Zy (ι:={x:Nat×Value//x.1≤ws.length∧x.2.oneCell'=true}) (fun x=>⟨[(4,padd (sbase h4) 0, .val (padd (sbase h4) 0)),(7,padd (sbase h7) 0, .val (padd (sbase h7) 0)),(10,x.1.2, .val x.1.2),(42,v42,ZT ws),(43, .int .i64 ws.length,Zf ws.length),(44, .int .i64 x.1.1,Zf x.1.1)],[(4,h4, .own 26 1 1 [ZT ws]),(7,h7, .own 78 1 1 [.smap (skv es)]),(41,x.1.2, .own 114 2 (G2 c.parts ws x.1.1).length ((G2 c.parts ws x.1.1).flatMap (ZY 9)))]⟩) (fun x=>ws.length-x.1.1) ⟨(0,h41),oM,ho41⟩ (fun a w H=>H.weaken ⟨rfl,rfl,rfl,rfl,rfl,rfl,trivial⟩ ⟨rfl,rfl,rfl,trivial⟩) ?_;rintro ⟨⟨k,h⟩,hk0,hho⟩;dsimp only at hk0 hho ⊢;refine Zd ?_;(refine xL 45 ZI ?_<;>refine Zc ?_)
     refine ZZ rfl ?_ ?_
     · intro hb3;(have hlt:k<ws.length:=by have:=UD hb3;omega);obtain ⟨s,hs⟩:=Zm hlt;have e1:=Yq (f:=ZD) hs;have m1:=Tl (hes s (Xb hs));obtain ⟨hol,how⟩:=ζG c.parts ws k hk0;have hprev:0<k→∃y,ws[k-1]? =some y∧(ws.map ZD)[k-1]? =some (ZD y)∧(Wc (skv es) (.string y)).getD (.int .i64 0)= .int .i64 (partOf c.parts y):=fun h0=>by
        obtain ⟨y,hy⟩:=Zm (show k-1<ws.length by omega);exact ⟨y,hy,by rw [Xm,hy];rfl,Tl (hes y (Xb hy))⟩
       refine Zd ?_;(refine xL 46 Za (xL 47 (Zv KT) ?_)<;>(refine yL 48 (ZN LP) fun v48 h=>?_;cases h)<;>refine xL 11 Zb (xL 12 Zb ?_)<;>refine Zc ?_)
       (refine ZM (fun i=>([]:List Nat).elem i) [4,7,41] kR ?_<;>refine xE 0 49 rfl Za ?_<;>refine xE 1 50 rfl ZU ?_<;>refine xE 2 51 rfl Za ?_<;>(refine bDd 51 (fun hb51=>?_) (fun hb51=>?_)<;>(first|refine kD 3 52 rfl ?_|(refine yD 3 52 rfl (Zr 7 Wb) fun v52 h=>?_;cases h)))<;>(first|refine kD 4 53 rfl ?_|refine xD 4 53 rfl Za ?_)<;>(first|refine kD 5 54 rfl ?_|refine xD 5 54 rfl (Kk Wa) ?_)<;>(first|refine kD 6 55 rfl ?_|(refine yD 6 55 rfl (Zr 7 Wb) fun v55 h=>?_;cases h))<;>(first|refine kD 7 56 rfl ?_|(refine yD 7 56 rfl (Zr 4 YF) fun v56 h=>?_;cases h))<;>(first|refine kD 8 57 rfl ?_|refine xD 8 57 rfl Za ?_)<;>(first|refine kD 9 58 rfl ?_|refine xD 9 58 rfl KD ?_)<;>(first|refine kD 10 59 rfl ?_|refine xD 10 59 rfl (Ts KT) ?_)<;>(first|refine kD 11 60 rfl ?_|(refine (hprev oM).elim fun y hy=>?_;refine D7 11 60 rfl kR rfl rfl (Xa rfl) (RH (k-1) LP rfl rfl oM hy.2.1) ?_;intro v60 hv60;cases hv60;have m2:=hy.2.2))<;>(first|refine kD 12 61 rfl ?_|refine xD 12 61 rfl (Kk Wa) ?_)<;>(first|refine kD 13 62 rfl ?_|refine xD 13 62 rfl Wg ?_)<;>refine xE 14 63 rfl Zt ?_<;>refine Ym kR (nav ?_)<;>try dsimp only)
       ·
        have hk00:k=0:=oM;have hs':ws[0]? =some s:=hk00▸hs;(have ho:G2 c.parts ws k=[⟨0,[]⟩]:=by rw [hk00];rfl);rw [ho];refine Js (ι:={x:Value×List Piece×Piece//x.1.oneCell'=true∧G2 c.parts ws (k+1)=x.2.1++[⟨x.2.2.part,x.2.2.word++[s]⟩]∧x.2.1.length≤k+1∧x.2.2.word.length≤k}) (fun x=>⟨[(4,padd (sbase h4) 0, .val (padd (sbase h4) 0)),(7,padd (sbase h7) 0, .val (padd (sbase h7) 0)),(10,x.1.1, .val x.1.1),(12, .string s,ZD s),(42,v42,ZT ws),(43, .int .i64 ws.length,Zf ws.length),(44, .int .i64 k,Zf k)],[(4,h4, .own 26 1 1 [ZT ws]),(7,h7, .own 78 1 1 [.smap (skv es)]),(41,x.1.1, .own 114 2 (x.1.2.1.length+1) ((x.1.2.1++[x.1.2.2]).flatMap (ZY 9)))]⟩) ?_ ?_
        · refine ZZ rfl ?_ (fun h=>by cases h);intro _;refine Zd ?_;(refine xL 64 Za (xL 65 YV ?_)<;>refine Zc ?_)
          refine ZZ rfl (fun h=>by have:=UD h;omega) ?_;intro _;refine Zd ?_;(refine xL 70 Za (xL 71 Za (xL 72 (Y7 41 Z') (xL 73 KD ?_)))<;>(refine yL 74 (Zr 7 Wb) fun v74 h=>?_;cases h)<;>refine xL 75 Za (xL 76 (Kk Wa) (xL 77 (Zq 41 Z') (xL 78 (Zn 41 JE) ?_)))<;>refine K4 41 0 rfl rfl TR DC rfl rfl rfl rfl rfl sM (by simp [ZY]) ?_<;>refine Zc ?_)
          exact RD ⟨(h,[],⟨partOf c.parts s,[]⟩),hho,by rw [hk00,Zgx hs'];rfl,sM,sM⟩ ⟨rfl,rfl,rfl,rfl,rfl,rfl,rfl,trivial⟩ ⟨rfl,rfl,rfl,trivial⟩
        · rintro ⟨⟨h9,m,q⟩,hh9,hout,hm1,hq1⟩;dsimp only at hh9 hout hm1 hq1 ⊢;have hqat:(m++[q])[m.length]? =some q:=sM;have hfl:=Yr (Yj 9) (m++[q]);(have hfl2:((m++[q]).flatMap (ZY 9)).length=m.length*2+2:=by rw [hfl];simp;omega);have hcell:=WU (Yj 9) hqat (j:=1) dC;refine ZE (focus (l:=41) (l':=500) (j:=m.length*2+1) rfl hcell rfl) fun v=>?_;have hc2:(((m++[q]).flatMap (ZY 9)).set (m.length*2+1) (.val v))[m.length*2+1]? =some (.val v):=Xs oM;refine Zd ?_;(refine xL 79 Za (xL 80 Za (xL 81 (Y7 41 Z') (xL 82 KD (xL 83 Za (xL 84 Za (xL 85 (Y7 41 Z') (xL 86 KD (xL 87 (OF 41 Z') (xL 88 (Zn 41 We) ?_)))))))))<;>(refine Oy 89 rfl rfl (Xa rfl) (Wk 41 (m.length*2+1) YF rfl rfl rfl oM hc2 rfl) ?_;intro v89 hv89;cases hv89)<;>refine xL 90 Za ?_<;>refine W4 (kk:=1) 91 Kx fun h91 ho91=>?_<;>refine Kd 500 91 92 Kx fun h92 ho92=>?_<;>refine xL 93 (OF 41 Z') (xL 94 (Zn 41 We) ?_)<;>(refine K4 41 (m.length*2+1) rfl rfl YF LQ rfl rfl rfl (by assumption) rfl oM (by rw [Xh,hfl2];omega) ?_)<;>refine Zc ?_)
          have hc3:((((m++[q]).flatMap (ZY 9)).set (m.length*2+1) (.val v)).set (m.length*2+1) (.val h92))[m.length*2+1]? =some (.val h92):=Xs (by rw [Xh];omega);refine ZE (J5 (l:=41) (l':=92) (j:=m.length*2+1) rfl hc3 rfl rfl) fun _=>?_;have hcs:(((((m++[q]).flatMap (ZY 9)).set (m.length*2+1) (.val v)).set (m.length*2+1) (.val h92)).set (m.length*2+1) (.own 9 1 (q.word.length+1) (q.word.map ZD++[ZD s])))=(G2 c.parts ws (k+1)).flatMap (ZY 9):=by
           rw [XK,XK,hout,Gi (Yj 9) (m++[q]) m.length 1 q ⟨q.part,q.word++[s]⟩ _ hqat dC (by simp [ZY])];congr 1;rw [Vk _ _ (Xc _),X6];rfl
          (refine Zo ?_<;>refine xL 95 ZH (xL 44 Za ?_)<;>refine Zc ?_)
          exact Zh ⟨(k+1,h9),by show k+1≤ws.length;omega,hh9⟩ (by show ws.length-(k+1)<ws.length-k;omega) ⟨rfl,rfl,rfl,rfl,rfl,rfl,trivial⟩ ⟨rfl,rfl,by show some _=some _;rw [hcs,hout];simp,trivial⟩
       · obtain ⟨m0,w0',hlast⟩:=Zed (parts:=c.parts) (show 0<k by omega) hy.1;have hstep:=Zee (parts:=c.parts) hs (show 0<k by omega);rw [hlast] at hol how hstep;have hgl:=Zgv m0 ⟨partOf c.parts y,w0'⟩;rw [hlast];have hol':(m0++[(⟨partOf c.parts y,w0'⟩:Piece)]).length=m0.length+1:=sM;refine Js (ι:={x:Value×List Piece×Piece//x.1.oneCell'=true∧G2 c.parts ws (k+1)=x.2.1++[⟨x.2.2.part,x.2.2.word++[s]⟩]∧x.2.1.length≤k+1∧x.2.2.word.length≤k}) (fun x=>⟨[(4,padd (sbase h4) 0, .val (padd (sbase h4) 0)),(7,padd (sbase h7) 0, .val (padd (sbase h7) 0)),(10,x.1.1, .val x.1.1),(12, .string s,ZD s),(42,v42,ZT ws),(43, .int .i64 ws.length,Zf ws.length),(44, .int .i64 k,Zf k)],[(4,h4, .own 26 1 1 [ZT ws]),(7,h7, .own 78 1 1 [.smap (skv es)]),(41,x.1.1, .own 114 2 (x.1.2.1.length+1) ((x.1.2.1++[x.1.2.2]).flatMap (ZY 9)))]⟩) ?_ ?_
         · refine ZZ rfl ?_ ?_
           · intro hb4;have hne:partOf c.parts s≠partOf c.parts y:=UD hb4;have hst2:G2 c.parts ws (k+1)=(m0++[(⟨partOf c.parts y,w0'⟩:Piece)])++[⟨partOf c.parts s,[]++[s]⟩]:=by
              rw [hstep];unfold YD;rw [hgl];simp [Ne.symm hne]
             have hfl:=Yr (Yj 9) (m0++[(⟨partOf c.parts y,w0'⟩:Piece)]);refine Zd ?_;(refine xL 64 Za (xL 65 YV ?_)<;>refine Zc ?_)
             refine ZZ rfl ?_ (fun h=>by have:=UE h;omega);intro _;refine Zd ?_;(refine xL 66 Za (xL 67 (ZO SL) ?_)<;>refine Ju 68 G1 fun h68 ho68=>?_<;>refine Kd 41 68 69 G1 fun h69 ho69=>?_<;>refine xL 10 Zb ?_<;>refine Zc ?_)
             refine ZE (S6 (l:=69) (((m0++[(⟨partOf c.parts y,w0'⟩:Piece)]).flatMap (ZY 9))++[Zf 0, .own 9 1 0 []]) rfl (by simp [Sx]) (Zdd _ _ _ _)) fun _=>?_;refine ZE (Z5 (l:=69) 41 rfl rfl) fun _=>?_;(refine Zo ?_<;>refine xL 70 Za (xL 71 Za (xL 72 (Y7 41 Z') (xL 73 KD ?_)))<;>(refine yL 74 (Zr 7 Wb) fun v74 h=>?_;cases h)<;>refine xL 75 Za (xL 76 (Kk Wa) (xL 77 (OF 41 Z') (xL 78 (Zn 41 JE) ?_)))<;>(refine K4 41 ((m0.length+1)*2) rfl rfl TR DC rfl rfl rfl rfl rfl oM (by rw [Xf,hfl];simp) ?_)<;>refine Zc ?_)
             have hcs:((((m0++[(⟨partOf c.parts y,w0'⟩:Piece)]).flatMap (ZY 9))++[Zf 0, .own 9 1 0 []]).set ((m0.length+1)*2) (Zf (partOf c.parts s)))=((m0++[(⟨partOf c.parts y,w0'⟩:Piece)])++[(⟨partOf c.parts s,[]⟩:Piece)]).flatMap (ZY 9):=by
              rw [Vk _ _ (by rw [hfl,hol'];exact Xc _),hfl,hol',X6];simp only [Va];rfl
             exact RD ⟨(h69,m0++[⟨partOf c.parts y,w0'⟩],⟨partOf c.parts s,[]⟩),ho69,hst2,by show (m0++[(⟨partOf c.parts y,w0'⟩:Piece)]).length≤k+1;omega,sM⟩ ⟨rfl,rfl,rfl,rfl,rfl,rfl,rfl,trivial⟩ ⟨rfl,rfl,by show some _=some _;rw [hcs],trivial⟩
           · intro hb4;(have heq:partOf c.parts s=partOf c.parts y:=by have:=UE hb4;omega);have hst2:G2 c.parts ws (k+1)=m0++[⟨partOf c.parts y,w0'++[s]⟩]:=by
              rw [hstep];unfold YD;rw [hgl];simp only [];rw [UB heq.symm,Rw]
             refine nav ?_;exact RD ⟨(h,m0,⟨partOf c.parts y,w0'⟩),hho,hst2,by show m0.length≤k+1;omega,how _ sM⟩ ⟨rfl,rfl,rfl,rfl,rfl,rfl,rfl,trivial⟩ ⟨rfl,rfl,by show some _=some _;rw [hol'],trivial⟩
         · rintro ⟨⟨h9,m,q⟩,hh9,hout,hm1,hq1⟩;dsimp only at hh9 hout hm1 hq1 ⊢;have hqat:(m++[q])[m.length]? =some q:=sM;have hfl:=Yr (Yj 9) (m++[q]);(have hfl2:((m++[q]).flatMap (ZY 9)).length=m.length*2+2:=by rw [hfl];simp;omega);have hcell:=WU (Yj 9) hqat (j:=1) dC;refine ZE (focus (l:=41) (l':=500) (j:=m.length*2+1) rfl hcell rfl) fun v=>?_;have hc2:(((m++[q]).flatMap (ZY 9)).set (m.length*2+1) (.val v))[m.length*2+1]? =some (.val v):=Xs oM;refine Zd ?_;(refine xL 79 Za (xL 80 Za (xL 81 (Y7 41 Z') (xL 82 KD (xL 83 Za (xL 84 Za (xL 85 (Y7 41 Z') (xL 86 KD (xL 87 (OF 41 Z') (xL 88 (Zn 41 We) ?_)))))))))<;>(refine Oy 89 rfl rfl (Xa rfl) (Wk 41 (m.length*2+1) YF rfl rfl rfl oM hc2 rfl) ?_;intro v89 hv89;cases hv89)<;>refine xL 90 Za ?_<;>refine W4 (kk:=1) 91 Kx fun h91 ho91=>?_<;>refine Kd 500 91 92 Kx fun h92 ho92=>?_<;>refine xL 93 (OF 41 Z') (xL 94 (Zn 41 We) ?_)<;>(refine K4 41 (m.length*2+1) rfl rfl YF LQ rfl rfl rfl (by assumption) rfl oM (by rw [Xh,hfl2];omega) ?_)<;>refine Zc ?_)
           have hc3:((((m++[q]).flatMap (ZY 9)).set (m.length*2+1) (.val v)).set (m.length*2+1) (.val h92))[m.length*2+1]? =some (.val h92):=Xs (by rw [Xh];omega);refine ZE (J5 (l:=41) (l':=92) (j:=m.length*2+1) rfl hc3 rfl rfl) fun _=>?_;have hcs:(((((m++[q]).flatMap (ZY 9)).set (m.length*2+1) (.val v)).set (m.length*2+1) (.val h92)).set (m.length*2+1) (.own 9 1 (q.word.length+1) (q.word.map ZD++[ZD s])))=(G2 c.parts ws (k+1)).flatMap (ZY 9):=by
            rw [XK,XK,hout,Gi (Yj 9) (m++[q]) m.length 1 q ⟨q.part,q.word++[s]⟩ _ hqat dC (by simp [ZY])];congr 1;rw [Vk _ _ (Xc _),X6];rfl
           (refine Zo ?_<;>refine xL 95 ZH (xL 44 Za ?_)<;>refine Zc ?_)
           exact Zh ⟨(k+1,h9),by show k+1≤ws.length;omega,hh9⟩ (by show ws.length-(k+1)<ws.length-k;omega) ⟨rfl,rfl,rfl,rfl,rfl,rfl,trivial⟩ ⟨rfl,rfl,by show some _=some _;rw [hcs,hout];simp,trivial⟩
     · intro hb3;(have hge:k=ws.length:=by have:=UE hb3;omega);have hfin:Y1 c ws=if Ks (G2 c.parts ws k) then some (G2 c.parts ws k) else none:=by
        unfold Y1;rw [UB hk'];by_cases h0:ws=[]
        · (have:k=0:=by rw [hge,h0];rfl);rw [h0,this];rfl
        · have hk1':k≠0:=fun e=>h0 (Xw oM);rw [Hh h0];unfold G2;rw [UA hk1',hge,XI]
       obtain ⟨hol,_⟩:=ζG c.parts ws k hk0;generalize G2 c.parts ws k=out at hfin hol ⊢;refine Zd ?_;(refine xL 96 Za (xL 97 (Y7 41 Z') (xL 98 Za ?_))<;>refine Zc ?_)
       refine Zy (ι:={j:Nat//j≤out.length∧∀i,i<j→W1 out i=false}) (fun j=>⟨[(10,h, .val h),(96,h, .val h),(97, .int .i64 out.length,Zf out.length),(98, .int .i64 j.1,Zf j.1)],[(41,h, .own 114 2 out.length (out.flatMap (ZY 9)))]⟩) (fun j=>out.length-j.1) ⟨0,oM,oM⟩ (fun a w H=>H.weaken ⟨rfl,rfl,rfl,rfl,trivial⟩ ⟨rfl,trivial⟩) ?_;rintro ⟨j,hj,hprej⟩;dsimp only at hj hprej ⊢;refine Zd ?_;(refine xL 99 ZI ?_<;>refine Zc ?_)
       refine ZZ rfl ?_ ?_
       · intro hb4;(have hltj:j<out.length:=by have:=UD hb4;omega);obtain ⟨q,hq⟩:=Zm hltj;have hcell:=WU (Yj 9) hq (j:=1) dC;have hfl:=Yr (Yj 9) out;have hfit:=YT (Yj 9) hq;refine ZE (Gl (l:=41) (l':=500) (j:=j*2+1) rfl hcell rfl rfl) fun v=>?_;obtain ⟨v,hv1⟩:=v;dsimp only;have hD:((((out.flatMap (ZY 9)).set (j*2+1) (.val v)).drop (j*2)).take 2)=[Zf q.part, .val v]:=by
          rw [List.drop_set,UA oM,List.take_set,Yz (Yj 9) out j q hq,show j*2+1-j*2=1 by omega];rfl
         have hnext:j+1<out.length→∃q',out[j+1]? =some q'∧((out.flatMap (ZY 9)).set (j*2+1) (.val v))[(j+1)*2+0]? =some (Zf q'.part):=fun h1=>by
          obtain ⟨q',hq'⟩:=Zm h1;refine ⟨q',hq',?_⟩;rw [X0 oM,WU (Yj 9) hq' (j:=0) dC];rfl
         refine Zd ?_;(refine xL 100 Za (xL 101 (Zq 41 Z') ?_)<;>(refine yL 102 (Zu 41 PU) fun v102 h=>?_;cases h)<;>refine ZA [(.int .i64 0),(.slice none 0 0)] 2 14 Za5 fun h14=>?_<;>refine xL 13 Zb ?_<;>refine Zw 14 PU ?_<;>refine Zi ?_)
         (refine xL 103 (Zn 14 JE) ?_<;>(refine yL 104 (Zr 14 TR) fun v104 h=>?_;cases h)<;>refine xL 105 Wg (xL 106 Za ?_)<;>(refine bLd 106 (fun hb106=>?_) (fun hb106=>?_)<;>(first|refine kL 107 ?_|refine xL 107 Za ?_))<;>(first|refine kL 108 ?_|refine xL 108 ZU ?_)<;>(first|refine kL 109 ?_|refine xL 109 Za ?_)<;>(first|refine kL 110 ?_|(refine bLd 109 (fun hb109=>?_) (fun hb109=>?_)<;>(first|refine kL 110 ?_|refine xL 110 Za ?_)))<;>(first|refine kL 111 ?_|refine xL 111 Za ?_)<;>(first|refine kL 112 ?_|refine xL 112 (Y7 41 Z') ?_)<;>(first|refine kL 113 ?_|refine xL 113 KD ?_)<;>(first|refine kL 114 ?_|refine xL 114 ZU ?_)<;>(first|refine kL 115 ?_|refine xL 115 Zt ?_)<;>(first|refine kL 116 ?_|refine xL 116 Za ?_)<;>(first|refine kL 117 ?_|(refine bLd 116 (fun hb116=>?_) (fun hb116=>?_)<;>(first|refine kL 117 ?_|refine xL 117 Za ?_)))<;>(first|refine kL 118 ?_|refine xL 118 Za ?_)<;>(first|refine kL 119 ?_|refine xL 119 ZH ?_)<;>(first|refine kL 120 ?_|refine xL 120 (Zq 41 Z') ?_)<;>(first|refine kL 121 ?_|refine xL 121 (Zn 41 JE) ?_)<;>(first|refine kL 122 ?_|(refine (hnext oM).elim fun q' hq'=>?_;refine Oy 122 rfl rfl (Xa rfl) (Wk 41 ((j+1)*2+0) TR rfl rfl rfl (by first|rfl|omega) hq'.2 rfl) ?_;intro v122 hv122;cases hv122))<;>(first|refine kL 123 ?_|refine xL 123 Wg ?_)<;>(first|refine kL 124 ?_|refine xL 124 Zt ?_)<;>refine xL 125 Zt ?_<;>refine Zc ?_)
         · have hj0:j=0:=oM;(have hbp:W1 out j=true:=by unfold W1;rw [hq];simp [hb106,hj0]);have hbad:Ks out=false:=by
            unfold Ks;rw [VE];exact ⟨j,XV.2 hltj,by rw [hbp];simp⟩
           refine ZZ rfl ?_ (fun h=>by cases h);intro _;refine Zd ?_;(refine xL 8 Zb (xL 9 Zb ?_)<;>refine Zc ?_)
           refine YO (results66) rfl rfl ?_;rw [hfin,hbad];rfl
         · have hj0:j=out.length-1:=oM;(have hbp:W1 out j=true:=by unfold W1;rw [hq];simp [hb106,hj0]);have hbad:Ks out=false:=by
            unfold Ks;rw [VE];exact ⟨j,XV.2 hltj,by rw [hbp];simp⟩
           refine ZZ rfl ?_ (fun h=>by cases h);intro _;refine Zd ?_;(refine xL 8 Zb (xL 9 Zb ?_)<;>refine Zc ?_)
           refine YO (results66) rfl rfl ?_;rw [hfin,hbad];rfl
         · refine ZZ rfl ?_ ?_
           · intro hb5;have hb5:=UD hb5;(have hbp:W1 out j=true:=by unfold W1;rw [hq];rw [hq'.1];simp [hb106,hb5]);have hbad:Ks out=false:=by
              unfold Ks;rw [VE];exact ⟨j,XV.2 hltj,by rw [hbp];simp⟩
             refine Zd ?_;(refine xL 8 Zb (xL 9 Zb ?_)<;>refine Zc ?_)
             refine YO (results66) rfl rfl ?_;rw [hfin,hbad];rfl
           · intro hb5;(have hb5:q'.part=0:=by have:=UE hb5;omega);have hja:j≠0:=oM;have hjb:j≠out.length-1:=oM;refine Zd ?_;(refine xL 126 ZH (xL 98 Za ?_)<;>refine Zc ?_)
             (have hbp:W1 out j=false:=by unfold W1;rw [hq];rw [hq'.1];simp [hb5,hja,hjb]);refine Yh (J5 (l:=41) (l':=500) (j:=j*2+1) rfl (Xs oM) rfl rfl) fun _=>?_;have hcs:(((out.flatMap (ZY 9)).set (j*2+1) (.val v)).set (j*2+1) (.own 9 1 q.word.length (q.word.map ZD)))=out.flatMap (ZY 9):=by
              rw [XK];exact Rm hcell
             refine Zh ⟨j+1,oM,fun i hi=>?_⟩ (by show out.length-(j+1)<out.length-j;omega) ⟨rfl,rfl,rfl,rfl,trivial⟩ ⟨by show some _=some _;rw [hcs],trivial⟩;by_cases e:i=j
             · subst e;exact hbp
             · exact hprej i oM
         · have hz:q.part=0:=oM;refine ZZ rfl (fun h=>by cases h) ?_;intro _;refine Zd ?_;(refine xL 126 ZH (xL 98 Za ?_)<;>refine Zc ?_)
           (have hbp:W1 out j=false:=by unfold W1;rw [hq];simp [hz]);refine Yh (J5 (l:=41) (l':=500) (j:=j*2+1) rfl (Xs oM) rfl rfl) fun _=>?_;have hcs:(((out.flatMap (ZY 9)).set (j*2+1) (.val v)).set (j*2+1) (.own 9 1 q.word.length (q.word.map ZD)))=out.flatMap (ZY 9):=by
            rw [XK];exact Rm hcell
           refine Zh ⟨j+1,oM,fun i hi=>?_⟩ (by show out.length-(j+1)<out.length-j;omega) ⟨rfl,rfl,rfl,rfl,trivial⟩ ⟨by show some _=some _;rw [hcs],trivial⟩;by_cases e:i=j
           · subst e;exact hbp
           · exact hprej i oM
       · intro hb4;(have hgej:out.length≤j:=by have:=UE hb4;omega);have hgood:Ks out=true:=by
          unfold Ks;rw [Xj];intro i hi;rw [hprej i (by have:=XV.1 hi;omega)];rfl
         refine Zd ?_;(refine xL 127 Za (xL 8 Zb (xL 9 Zb ?_))<;>refine Zc ?_)
         refine YP (En.freeze (l:=41) (t:=8) rfl rfl) fun _=>?_;refine YO (results66) rfl rfl ?_;rw [hfin,hgood];show _=_;simp only [share,Sv];rfl
   · intro hb2;have hk':c.kind≠4:=UE hb2;refine Zd ?_;(refine xL 128 Za ?_<;>refine ZhE [(.int .i64 0),(.slice none 0 0)] 129 G1 fun h129 ho129=>?_<;>refine xL 15 Zb ?_<;>refine Zc ?_)
     have hini:(List.replicate c.parts.length (⟨0,[]⟩:Piece))=Yy (initPs c.parts.length):=(ζn _).symm;refine ZE (S6 (l:=129) ((List.replicate c.parts.length (⟨0,[]⟩:Piece)).flatMap (ZY 9)) rfl (by rw [Yr (Yj 9)];simp) (Zef _ _)) fun _=>?_;rw [hini];(refine Zo ?_<;>(refine yL 130 (Zr 4 YF) fun v130 h=>?_;cases h)<;>refine xL 131 (ZF KT) (xL 132 Za ?_)<;>refine Zc ?_)
     refine Zy (ι:={x:Nat×List Piece×Int//x.1≤ws.length∧splitGo c.kind c.parts true 0 (initPs c.parts.length) ws=splitGo c.kind c.parts (decide (x.1=0)) x.2.2 x.2.1 (ws.drop x.1)∧InPlace x.2.1∧x.2.1.length=c.parts.length∧(∀p∈x.2.1,p.word.length≤x.1)∧(x.1=0→x.2.2=0)∧∀y,0<x.1→ws[x.1-1]? =some y→x.2.2=partOf c.parts y}) (fun x=>⟨[(1, .int .i64 c.kind,Zf c.kind),(4,padd (sbase h4) 0, .val (padd (sbase h4) 0)),(7,padd (sbase h7) 0, .val (padd (sbase h7) 0)),(15,h129, .val h129),(130,v130,ZT ws),(131, .int .i64 ws.length,Zf ws.length),(132, .int .i64 x.1.1,Zf x.1.1)],[(4,h4, .own 26 1 1 [ZT ws]),(7,h7, .own 78 1 1 [.smap (skv es)]),(129,h129, .own 114 2 c.parts.length ((Yy x.1.2.1).flatMap (ZY 9)))]⟩) (fun x=>ws.length-x.1.1) ⟨(0,initPs c.parts.length,0),by show 0≤ws.length;omega,sM,E1 _,LW _,fun p hp=>by rw [Ct hp];simp,fun _=>rfl,fun y h=>by simp at h⟩ (fun a w H=>H.weaken ⟨rfl,rfl,rfl,rfl,rfl,rfl,rfl,trivial⟩ ⟨rfl,rfl,rfl,trivial⟩) ?_;rintro ⟨⟨k,ps,last⟩,hk0,hgo,hin',hpl,hpw,hl0,hl1⟩;dsimp only at hk0 hgo hin' hpl hpw hl0 hl1 ⊢;refine Zd ?_;(refine xL 133 ZI ?_<;>refine Zc ?_)
     refine ZZ rfl ?_ ?_
     · intro hb3;(have hlt:k<ws.length:=by have:=UD hb3;omega);obtain ⟨s,hs⟩:=Zm hlt;have hsm:=Xb hs;have e1:=Yq (f:=ZD) hs;have m1:=Tl (hes s hsm);have hge0:=hin s hsm;obtain ⟨i,hi⟩:∃i:Nat,partOf c.parts s=i:=⟨(partOf c.parts s).toNat,oM⟩;(have hilt:i<c.parts.length:=by have:=RG c.parts s;omega);have hprev:0<k→∃y,ws[k-1]? =some y∧(ws.map ZD)[k-1]? =some (ZD y)∧(Wc (skv es) (.string y)).getD (.int .i64 0)= .int .i64 (partOf c.parts y):=fun h0=>by
        obtain ⟨y,hy⟩:=Zm (show k-1<ws.length by omega);exact ⟨y,hy,by rw [Xm,hy];rfl,Tl (hes y (Xb hy))⟩
       have hgo2:splitGo c.kind c.parts (decide (k=0)) last ps (ws.drop k)=if Gp c.kind (decide (k=0)) (partOf c.parts s) last then none else splitGo c.kind c.parts false (partOf c.parts s) (W6 ps (partOf c.parts s).toNat s) (ws.drop (k+1)):=by
        rw [Ws hs,splitGo]
       (have hk1n:(c.kind==1)=false:=by simpa using hk);rw [hi] at m1;obtain ⟨q,hq⟩:=Zm (show i<ps.length by omega);have hqn:=R7 hq;have hcell:=WU (Yj 9) hqn (j:=1) dC;have hfl:=Yr (Yj 9) (Yy ps);rw [SG] at hfl;have hqw:q.word.length≤k:=hpw q (Xb hq);refine Zd ?_;(refine xL 134 Za (xL 135 (Zv KT) ?_)<;>(refine yL 136 (ZN LP) fun v136 h=>?_;cases h)<;>refine xL 16 Zb (xL 17 Zb ?_)<;>refine Zc ?_)
       (refine ZM (fun i=>([]:List Nat).elem i) [4,7,129] kR ?_<;>refine xE 0 137 rfl Za ?_<;>refine xE 1 138 rfl ZU ?_<;>refine xE 2 139 rfl Za ?_<;>(refine bDd 139 (fun hb139=>?_) (fun hb139=>?_)<;>(first|refine kD 3 140 rfl ?_|refine xD 3 140 rfl Za ?_))<;>(first|refine kD 4 141 rfl ?_|refine xD 4 141 rfl YV ?_)<;>refine xE 5 142 rfl Zt ?_<;>refine xE 6 143 rfl Za ?_<;>(first|refine kD 7 144 rfl ?_|(refine bDd 143 (fun hb143=>?_) (fun hb143=>?_)<;>(first|refine kD 7 144 rfl ?_|(refine yD 7 144 rfl (Zr 7 Wb) fun v144 h=>?_;cases h))))<;>(first|refine kD 8 145 rfl ?_|refine xD 8 145 rfl Za ?_)<;>(first|refine kD 9 146 rfl ?_|refine xD 9 146 rfl (Kk Wa) ?_)<;>(first|refine kD 10 147 rfl ?_|(refine yD 10 147 rfl (Zr 7 Wb) fun v147 h=>?_;cases h))<;>(first|refine kD 11 148 rfl ?_|(refine yD 11 148 rfl (Zr 4 YF) fun v148 h=>?_;cases h))<;>(first|refine kD 12 149 rfl ?_|refine xD 12 149 rfl Za ?_)<;>(first|refine kD 13 150 rfl ?_|refine xD 13 150 rfl KD ?_)<;>(first|refine kD 14 151 rfl ?_|refine xD 14 151 rfl (Ts KT) ?_)<;>(first|refine kD 15 152 rfl ?_|(refine (hprev oM).elim fun y hy=>?_;refine D7 15 152 rfl kR rfl rfl (Xa rfl) (RH (k-1) LP rfl rfl oM hy.2.1) ?_;intro v152 hv152;cases hv152;have m2:=hy.2.2))<;>(first|refine kD 16 153 rfl ?_|refine xD 16 153 rfl (Kk Wa) ?_)<;>(first|refine kD 17 154 rfl ?_|refine xD 17 154 rfl ZI ?_)<;>refine xE 18 155 rfl Zt ?_<;>refine Ym kR (nav ?_)<;>try dsimp only)
       ·
        have hlast:last=partOf c.parts y:=hl1 y oM hy.1;refine ZZ rfl ?_ ?_
        · intro hb4;have hb4:=UD hb4;have hno:Y1 c ws=none:=by
           unfold Y1;rw [UA hk',hgo,hgo2];have:Gp c.kind (decide (k=0)) (partOf c.parts s) last=true:=by
            unfold Gp;rw [hi,hlast,hb139];simp [hb4]
           rw [this];rfl
          refine Zd ?_;(refine xL 8 Zb (xL 9 Zb ?_)<;>refine Zc ?_)
          refine YO (results66) rfl rfl ?_;rw [hno];rfl
        · intro hb4;have hb4:=UE hb4;have hnb:Gp c.kind (decide (k=0)) (partOf c.parts s) last=false:=by
           unfold Gp;rw [hk1n,hi,hlast];simp;intro _;omega
          refine nav ?_;refine ZE (Gl (l:=129) (l':=500) (j:=i*2+1) rfl hcell rfl rfl) fun v=>?_;obtain ⟨v,hv1⟩:=v;dsimp only;have hc2:(((Yy ps).flatMap (ZY 9)).set (i*2+1) (.val v))[i*2+1]? =some (.val v):=Xs oM;(refine ZM (fun i=>([16]:List Nat).elem i) [4,7,129] kR ?_<;>refine xD 0 156 rfl Za ?_<;>(refine yD 1 157 rfl (Zr 7 Wb) fun v157 h=>?_;cases h)<;>refine xD 2 158 rfl Za ?_<;>refine xD 3 159 rfl (Kk Wa) ?_<;>refine xD 4 160 rfl Za ?_<;>(refine yD 5 161 rfl (Zr 7 Wb) fun v161 h=>?_;cases h)<;>refine xD 6 162 rfl Za ?_<;>refine xD 7 163 rfl (Kk Wa) ?_<;>refine xD 8 164 rfl (Zq 129 Z') ?_<;>refine xD 9 165 rfl (Zn 129 We) ?_<;>(refine D7 10 166 rfl kR rfl rfl (Xa rfl) (Wk 129 (i*2+1) YF rfl rfl rfl (by first|rfl|omega) hc2 rfl) ?_;intro v166 hv166;cases hv166)<;>refine xE 11 167 rfl Za ?_<;>(refine Zk 12 kR ?_)<;>(refine Zg rfl fun w9 M9 N9 DQ back=>?_)<;>refine W4 (kk:=1) 168 Kx fun h168 ho168=>?_<;>refine Ze (back _ (nrm ?_))<;>(refine Zk 13 kR ?_)<;>(refine Zg rfl fun w9 M9 N9 DQ back=>?_)<;>refine Kd 500 168 169 Kx fun h169 ho169=>?_<;>refine Ze (back _ (nrm ?_))<;>refine xE 14 170 rfl (Zq 129 Z') ?_<;>refine xE 15 171 rfl (Zn 129 We) ?_<;>(refine Zk 16 kR ?_)<;>(refine W8 rfl rfl kR fun DQ back=>?_)<;>(refine K4 129 (i*2+1) rfl rfl YF LQ rfl rfl rfl (by assumption) rfl (by first|rfl|omega) (by rw [Xh,hfl];omega) ?_)<;>refine Ze (back _ (nav ?_))<;>try dsimp only)
          have hc3:((((Yy ps).flatMap (ZY 9)).set (i*2+1) (.val v)).set (i*2+1) (.val h169))[i*2+1]? =some (.val h169):=Xs (by rw [Xh];omega);refine ZE (J5 (l:=129) (l':=169) (j:=i*2+1) rfl hc3 rfl rfl) fun _=>?_;have hcs:((((Yy ps).flatMap (ZY 9)).set (i*2+1) (.val v)).set (i*2+1) (.val h169)).set (i*2+1) (.own 9 1 (q.word.length+1) (q.word.map ZD++[ZD s]))=(Yy (W6 ps i s)).flatMap (ZY 9):=by
           rw [XK,XK,Gi (Yj 9) (Yy ps) i 1 ⟨0,q.word⟩ ⟨0,q.word++[s]⟩ _ hqn dC (by simp [ZY]),SH s hq]
          (refine Zo ?_<;>refine xL 172 ZH (xL 132 Za ?_)<;>refine Zc ?_)
          refine Zh ⟨(k+1,W6 ps i s,(i:Int)),by show k+1≤ws.length;omega,?_,hin'.add i s,by show (W6 ps i s).length=_;rw [RF];exact hpl,?_,fun h=>by simp at h,fun y _ hy=>?_⟩ (by show ws.length-(k+1)<ws.length-k;omega) ⟨rfl,rfl,rfl,rfl,rfl,rfl,rfl,trivial⟩ ⟨rfl,rfl,by show some _=some _;rw [hcs],trivial⟩
          · show _=splitGo c.kind c.parts (decide (k+1=0)) (i:Int) (W6 ps i s) (ws.drop (k+1));rw [hgo,hgo2,hnb,hi,XL,show decide (k+1=0)=false by simp];rfl
          · intro p hp;show p.word.length≤k+1;change p∈W6 ps i s at hp
            rw [JN hq] at hp;rcases Vq hp with h1|h1
            · have:=hpw p h1;omega
            · rw [h1];simp;omega
          · have:y=s:=by
             have h1:ws[k+1-1]? =some y:=hy;rw [Uu,hs] at h1;cases h1;rfl
            rw [this];exact hi.symm
       · have hnb:Gp c.kind (decide (k=0)) (partOf c.parts s) last=false:=by
          unfold Gp;rw [hk1n,hi,hl0 oM];simp
         refine ZZ rfl (fun h=>by cases h) ?_;intro _;refine nav ?_;refine ZE (Gl (l:=129) (l':=500) (j:=i*2+1) rfl hcell rfl rfl) fun v=>?_;obtain ⟨v,hv1⟩:=v;dsimp only;have hc2:(((Yy ps).flatMap (ZY 9)).set (i*2+1) (.val v))[i*2+1]? =some (.val v):=Xs oM;(refine ZM (fun i=>([16]:List Nat).elem i) [4,7,129] kR ?_<;>refine xD 0 156 rfl Za ?_<;>(refine yD 1 157 rfl (Zr 7 Wb) fun v157 h=>?_;cases h)<;>refine xD 2 158 rfl Za ?_<;>refine xD 3 159 rfl (Kk Wa) ?_<;>refine xD 4 160 rfl Za ?_<;>(refine yD 5 161 rfl (Zr 7 Wb) fun v161 h=>?_;cases h)<;>refine xD 6 162 rfl Za ?_<;>refine xD 7 163 rfl (Kk Wa) ?_<;>refine xD 8 164 rfl (Zq 129 Z') ?_<;>refine xD 9 165 rfl (Zn 129 We) ?_<;>(refine D7 10 166 rfl kR rfl rfl (Xa rfl) (Wk 129 (i*2+1) YF rfl rfl rfl (by first|rfl|omega) hc2 rfl) ?_;intro v166 hv166;cases hv166)<;>refine xE 11 167 rfl Za ?_<;>(refine Zk 12 kR ?_)<;>(refine Zg rfl fun w9 M9 N9 DQ back=>?_)<;>refine W4 (kk:=1) 168 Kx fun h168 ho168=>?_<;>refine Ze (back _ (nrm ?_))<;>(refine Zk 13 kR ?_)<;>(refine Zg rfl fun w9 M9 N9 DQ back=>?_)<;>refine Kd 500 168 169 Kx fun h169 ho169=>?_<;>refine Ze (back _ (nrm ?_))<;>refine xE 14 170 rfl (Zq 129 Z') ?_<;>refine xE 15 171 rfl (Zn 129 We) ?_<;>(refine Zk 16 kR ?_)<;>(refine W8 rfl rfl kR fun DQ back=>?_)<;>(refine K4 129 (i*2+1) rfl rfl YF LQ rfl rfl rfl (by assumption) rfl (by first|rfl|omega) (by rw [Xh,hfl];omega) ?_)<;>refine Ze (back _ (nav ?_))<;>try dsimp only)
         have hc3:((((Yy ps).flatMap (ZY 9)).set (i*2+1) (.val v)).set (i*2+1) (.val h169))[i*2+1]? =some (.val h169):=Xs (by rw [Xh];omega);refine ZE (J5 (l:=129) (l':=169) (j:=i*2+1) rfl hc3 rfl rfl) fun _=>?_;have hcs:((((Yy ps).flatMap (ZY 9)).set (i*2+1) (.val v)).set (i*2+1) (.val h169)).set (i*2+1) (.own 9 1 (q.word.length+1) (q.word.map ZD++[ZD s]))=(Yy (W6 ps i s)).flatMap (ZY 9):=by
          rw [XK,XK,Gi (Yj 9) (Yy ps) i 1 ⟨0,q.word⟩ ⟨0,q.word++[s]⟩ _ hqn dC (by simp [ZY]),SH s hq]
         (refine Zo ?_<;>refine xL 172 ZH (xL 132 Za ?_)<;>refine Zc ?_)
         refine Zh ⟨(k+1,W6 ps i s,(i:Int)),by show k+1≤ws.length;omega,?_,hin'.add i s,by show (W6 ps i s).length=_;rw [RF];exact hpl,?_,fun h=>by simp at h,fun y _ hy=>?_⟩ (by show ws.length-(k+1)<ws.length-k;omega) ⟨rfl,rfl,rfl,rfl,rfl,rfl,rfl,trivial⟩ ⟨rfl,rfl,by show some _=some _;rw [hcs],trivial⟩
         · show _=splitGo c.kind c.parts (decide (k+1=0)) (i:Int) (W6 ps i s) (ws.drop (k+1));rw [hgo,hgo2,hnb,hi,XL,show decide (k+1=0)=false by simp];rfl
         · intro p hp;show p.word.length≤k+1;change p∈W6 ps i s at hp
           rw [JN hq] at hp;rcases Vq hp with h1|h1
           · have:=hpw p h1;omega
           · rw [h1];simp;omega
         · have:y=s:=by
            have h1:ws[k+1-1]? =some y:=hy;rw [Uu,hs] at h1;cases h1;rfl
           rw [this];exact hi.symm
       · have hnb:Gp c.kind (decide (k=0)) (partOf c.parts s) last=false:=by
          unfold Gp;rw [hk1n];simp [hb139]
         refine ZZ rfl (fun h=>by cases h) ?_;intro _;refine nav ?_;refine ZE (Gl (l:=129) (l':=500) (j:=i*2+1) rfl hcell rfl rfl) fun v=>?_;obtain ⟨v,hv1⟩:=v;dsimp only;have hc2:(((Yy ps).flatMap (ZY 9)).set (i*2+1) (.val v))[i*2+1]? =some (.val v):=Xs oM;(refine ZM (fun i=>([16]:List Nat).elem i) [4,7,129] kR ?_<;>refine xD 0 156 rfl Za ?_<;>(refine yD 1 157 rfl (Zr 7 Wb) fun v157 h=>?_;cases h)<;>refine xD 2 158 rfl Za ?_<;>refine xD 3 159 rfl (Kk Wa) ?_<;>refine xD 4 160 rfl Za ?_<;>(refine yD 5 161 rfl (Zr 7 Wb) fun v161 h=>?_;cases h)<;>refine xD 6 162 rfl Za ?_<;>refine xD 7 163 rfl (Kk Wa) ?_<;>refine xD 8 164 rfl (Zq 129 Z') ?_<;>refine xD 9 165 rfl (Zn 129 We) ?_<;>(refine D7 10 166 rfl kR rfl rfl (Xa rfl) (Wk 129 (i*2+1) YF rfl rfl rfl (by first|rfl|omega) hc2 rfl) ?_;intro v166 hv166;cases hv166)<;>refine xE 11 167 rfl Za ?_<;>(refine Zk 12 kR ?_)<;>(refine Zg rfl fun w9 M9 N9 DQ back=>?_)<;>refine W4 (kk:=1) 168 Kx fun h168 ho168=>?_<;>refine Ze (back _ (nrm ?_))<;>(refine Zk 13 kR ?_)<;>(refine Zg rfl fun w9 M9 N9 DQ back=>?_)<;>refine Kd 500 168 169 Kx fun h169 ho169=>?_<;>refine Ze (back _ (nrm ?_))<;>refine xE 14 170 rfl (Zq 129 Z') ?_<;>refine xE 15 171 rfl (Zn 129 We) ?_<;>(refine Zk 16 kR ?_)<;>(refine W8 rfl rfl kR fun DQ back=>?_)<;>(refine K4 129 (i*2+1) rfl rfl YF LQ rfl rfl rfl (by assumption) rfl (by first|rfl|omega) (by rw [Xh,hfl];omega) ?_)<;>refine Ze (back _ (nav ?_))<;>try dsimp only)
         have hc3:((((Yy ps).flatMap (ZY 9)).set (i*2+1) (.val v)).set (i*2+1) (.val h169))[i*2+1]? =some (.val h169):=Xs (by rw [Xh];omega);refine ZE (J5 (l:=129) (l':=169) (j:=i*2+1) rfl hc3 rfl rfl) fun _=>?_;have hcs:((((Yy ps).flatMap (ZY 9)).set (i*2+1) (.val v)).set (i*2+1) (.val h169)).set (i*2+1) (.own 9 1 (q.word.length+1) (q.word.map ZD++[ZD s]))=(Yy (W6 ps i s)).flatMap (ZY 9):=by
          rw [XK,XK,Gi (Yj 9) (Yy ps) i 1 ⟨0,q.word⟩ ⟨0,q.word++[s]⟩ _ hqn dC (by simp [ZY]),SH s hq]
         (refine Zo ?_<;>refine xL 172 ZH (xL 132 Za ?_)<;>refine Zc ?_)
         refine Zh ⟨(k+1,W6 ps i s,(i:Int)),by show k+1≤ws.length;omega,?_,hin'.add i s,by show (W6 ps i s).length=_;rw [RF];exact hpl,?_,fun h=>by simp at h,fun y _ hy=>?_⟩ (by show ws.length-(k+1)<ws.length-k;omega) ⟨rfl,rfl,rfl,rfl,rfl,rfl,rfl,trivial⟩ ⟨rfl,rfl,by show some _=some _;rw [hcs],trivial⟩
         · show _=splitGo c.kind c.parts (decide (k+1=0)) (i:Int) (W6 ps i s) (ws.drop (k+1));rw [hgo,hgo2,hnb,hi,XL,show decide (k+1=0)=false by simp];rfl
         · intro p hp;show p.word.length≤k+1;change p∈W6 ps i s at hp
           rw [JN hq] at hp;rcases Vq hp with h1|h1
           · have:=hpw p h1;omega
           · rw [h1];simp;omega
         · have:y=s:=by
            have h1:ws[k+1-1]? =some y:=hy;rw [Uu,hs] at h1;cases h1;rfl
           rw [this];exact hi.symm
     · intro hb3;(have hge:ws.length≤k:=by have:=UE hb3;omega);have hfin:Y1 c ws=some ps:=by
        unfold Y1;rw [UA hk',hgo,XH hge,splitGo];simp only [];rw [UA hk]
       refine Zd ?_;(refine xL 173 Za (xL 174 (Y7 129 Z') (xL 175 Za ?_))<;>refine Zc ?_)
       refine Zy (ι:={j:Nat//j≤ps.length}) (fun j=>⟨[(15,h129, .val h129),(174, .int .i64 c.parts.length,Zf c.parts.length),(175, .int .i64 j.1,Zf j.1)],[(129,h129, .own 114 2 c.parts.length ((ps.take j.1++(Yy ps).drop j.1).flatMap (ZY 9)))]⟩) (fun j=>ps.length-j.1) ⟨0,oM⟩ (fun a w H=>H.weaken ⟨rfl,rfl,rfl,trivial⟩ ⟨rfl,trivial⟩) ?_;rintro ⟨j,hj⟩;dsimp only at hj ⊢;refine Zd ?_;(refine xL 176 ZI ?_<;>refine Zc ?_)
       refine ZZ rfl ?_ ?_
       · intro hb4;(have hltj:j<ps.length:=by have:=UD hb4;omega);obtain ⟨q,hq⟩:=Zm hltj;have hat:=Zh9 hq;have hfl:=Yr (Yj 9) (ps.take j++(Yy ps).drop j);rw [Zgg ps j hj] at hfl;have hcs:(((ps.take j++(Yy ps).drop j).flatMap (ZY 9)).set (j*2+0) (Zf (j:Int)))=(ps.take (j+1)++(Yy ps).drop (j+1)).flatMap (ZY 9):=by
          rw [Gi (Yj 9) _ j 0 ⟨0,q.word⟩ ⟨(j:Int),q.word⟩ (Zf (j:Int)) hat dC rfl,ZdP hin' hq]
         refine Zd ?_;(refine xL 177 Za (xL 18 Zb ?_)<;>refine Zi ?_)
         (refine xL 178 Za (xL 179 Za (xL 180 Za (xL 181 (Zq 129 Z') (xL 182 (Zn 129 JE) ?_))))<;>(refine K4 129 (j*2+0) rfl rfl TR DC rfl rfl rfl rfl rfl (by first|rfl|omega) (by rw [hfl];omega) ?_)<;>refine Zi ?_)
         (refine xL 183 ZH (xL 175 Za ?_)<;>refine Zc ?_)
         exact Zh ⟨j+1,oM⟩ (by show ps.length-(j+1)<ps.length-j;omega) ⟨rfl,rfl,rfl,trivial⟩ ⟨by show some _=some _;rw [hcs],trivial⟩
       · intro hb4;(have hgej:ps.length≤j:=by have:=UE hb4;omega);have hall:ps.take j++(Yy ps).drop j=ps:=by
          rw [Xy hgej,XH (by rw [SG];exact hgej),Xu]
         refine Zd ?_;(refine xL 184 Za (xL 8 Zb (xL 9 Zb ?_))<;>refine Zc ?_)
         refine YP (En.freeze (l:=129) (t:=8) rfl rfl) fun _=>?_;refine YO (results66) rfl rfl ?_;rw [hfin,hall];show _=_;simp only [share,Sv,←hpl];rfl
open Go.RowKit Go.Cb
end Go.Proofs.YtmkojdfiadbeeaaGreat
