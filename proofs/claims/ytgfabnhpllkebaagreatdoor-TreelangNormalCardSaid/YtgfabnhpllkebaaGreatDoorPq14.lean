/-
  The law TreelangNormal: a normal form has the same language; so has a tree with the parts of choices and mixtures in another order.
-/
import Derived.Test.YtgfabnhpllkebaaGreatDoorPq13
import Derived.Test.YtgfabnhpllkebaaGreatDoorPq06
import Derived.Test.YtgfabnhpllkebaaGreatDoorPq01
namespace Go.Proofs.YtgfabnhpllkebaaGreatDoor
open Go.RowKit Go.Cb Go.En Go.ChangeShapes Go.WideShapes Go.ChangeAt
set_option linter.all false
set_option maxRecDepth 100000
theorem Zce:AggT Tryz.prog 24 3=true:=by kernel_rfl
theorem ZwB:ElT Tryz.prog 22 24 3 48 (.agg #[(.int .i64 0),(.string ByteArray.empty),(.slice none 0 0)]):=⟨Tryz.underlying22,by kernel_rfl,rfl,by decide⟩
theorem Zog:SlT Tryz.prog 27 9 1=true:=by kernel_rfl
theorem Zoh:ZeroT Tryz.prog 24 (.agg #[(.int .i64 0),(.string ByteArray.empty),(.slice none 0 0)]):=by unfold ZeroT;kernel_rfl
theorem ZEl:Dec Tryz.prog 5 1 (fun n:Int=>[PV.val (.int .u8 n)]) (fun n=>0≤n∧n≤255):=by
 refine {size:=by kernel_rfl,len:=fun _=>rfl,dec:=fun e w spare held fuel cs x h=>?_}
 intro hwt
 obtain ⟨n,rfl,_,hw⟩:=DataW.trod_int Tryz.underlying5 h
 refine ⟨n,?_,rfl,fun i v p h1 h2=>Zji (.val _) i h1 h2⟩
 simpa [Lit.wf,IntKind.min,IntKind.max,IntKind.signed,IntKind.bits] using hw
theorem ZzS {t:Nd} (h:(Zh0 t).2=0):Zbv t=true∧Zbv (Zal t)=true∧ZsB t=Zal t:=by
 unfold Zh0 at h
 unfold ZsB
 split at h
 · rename_i h1;split at h
   · rename_i h2;exact ⟨h1,h2,by rw [if_pos h1,if_pos h2]⟩
   · cases h
 · cases h
theorem ZuH {a b:Nd} (h:eqTX a b=(true,[],0)∨eqTX a b=(false,[],13)):∃s e,eqTX a b=(s,[],e)∧((s=true∧e=0)∨(s=false∧e=13)):=by
 rcases h with h|h
 · exact ⟨_,_,h, .inl ⟨rfl,rfl⟩⟩
 · exact ⟨_,_,h, .inr ⟨rfl,rfl⟩⟩
set_option maxHeartbeats 4000000 in
theorem Zr2 (t:Nd) (k:Int) (hf:FitT t) (hk:0≤k∧k≤255):AF Tryz.prog 8 [pTr t, .val (.int .u8 k)] (· =ζV true):=by
 obtain ⟨c,rfl⟩:∃c:Nat,k=(c:Int):=⟨k.toNat,by omega⟩
 have e0:pTr t= .agg [pInt t.op,Zab t.act,Zag t.l]:=rfl
 have hN:=(Zsy t hf).reread (ZAH t) (ZAF (ZAG t))
 have hS:=Ztq [t] (show 1≤1000 by decide) (ZB4 hf)
 rw [e0] at hN ⊢
 refine AF.of_body 78 Tryz.func8 rfl Tryz.ntmps8 (Xa rfl) ?_
 intro w0 M0 vs hl hv
 obtain ⟨v0,v1,rfl⟩:=Zbl hl
 obtain rfl:=hv 1 _ _ rfl rfl
 clear hl hv
 refine nav ?_
 (refine ζa ?_<;>refine ζH 2 3 fun h2=>?_<;>refine xL 4 ζc ?_<;>refine ζd ?_)
 (refine ζa ?_<;>(refine cS 14 (cA Tryz.call10 (ZmC)) fun v14 h=>?_;cases h)<;>refine xL (v:= .bool false) (p:= .val (.bool false)) 15 (Zav (b:=true)) ?_<;>refine xL 16 ζb ?_<;>(refine yL 17 (ζk 2 Zce) fun v17 h=>?_;cases h)<;>(refine Zaw 18 ZwB fun h18 ho18=>?_;refine ζr (En.freeze (l:=18) (t:=18) rfl rfl) fun _=>?_;refine ζr (Zbh (t:=18) (p':=Zag [t]) rfl (Eq.trans (show _=PV.sl 1 (cN t) from rfl) (ZzR t))) fun _=>?_)<;>(refine cS 19 (cA Tryz.call11 (hS)) fun v19 h=>?_;cases h)<;>refine xL 20 Zav (xL 21 ζJ ?_)<;>refine ζd ?_)<;>(
  (first|refine cCd ?_ ?_|refine cC ?_ ?_)<;>intro hb21
  · first
    |exact bN hb21
    | (
     refine nav ?_;(refine ζa ?_<;>(refine cS 22 (cA Tryz.call10 (ZmC)) fun v22 h=>?_;cases h)<;>refine xL 4 ζc ?_<;>refine ζd ?_)
     exact ζx (Tryz.results8) rfl rfl)
  · first
    |exact bN hb21
    | (
     have hb0:ZrZ t=false:=by
      have h1:=hb21;simp only [List.any_cons,List.any_nil,VF] at h1;revert h1
      cases ZrZ t<;>simp
     have hsz:=ZDK hb0;refine nav ?_;(refine ζa ?_<;>(refine yL 24 (ζk 2 Zce) fun v24 h=>?_;cases h)<;>(refine cP 25 (cA Tryz.call35 (hN)) fun va25 vb25 hva25 h=>?_;cases h)<;>refine xL 23 ζb (xL 26 ζl (xL 27 ζl ?_))<;>refine ζs [(.int .i64 0),(.string ByteArray.empty),(.slice none 0 0)] 3 5 Zoh fun h5=>?_<;>refine ζt 5 Zce ?_<;>refine xL 6 ζc ?_<;>refine ζd ?_)
     (refine ζa ?_<;>refine xL 28 ζb (xL 29 Zaz ?_)<;>refine ζd ?_)
     (first|refine cCd ?_ ?_|refine cC ?_ ?_)<;>intro hb29
     · first
       |exact bN hb29
       | (
        refine nav ?_;(refine ζa ?_<;>refine xL 4 ζc ?_<;>refine ζd ?_)
        exact ζx (Tryz.results8) rfl rfl)
     · first
       |exact bN hb29
       | (
        obtain ⟨hv,hv2,hnn⟩:=ZzS (t:=t) (by simpa using hb29);have hok:=ZdG hv;have hvr:=Zuq c hv;obtain ⟨s,e,hX,hc⟩:=ZuH (Zy4 hv hv2 (by omega));obtain ⟨s2,e2,hY,hd⟩:=ZuH (Zy5 c hv (by omega));have hP:=ZeT t (ZsB t) hf (ZxK hf);rw [hnn,hX] at hP;have hQ:=ZeT (ZbE c t) t (Zpt hvr) hf;rw [hY] at hQ;have hT:=ZwA c (by omega) t hok (by omega);dsimp only at hP hQ;rw [e0] at hP hQ hT;rw [hnn];refine nav ?_;(refine ζa ?_<;>(refine yL 31 (ζk 2 Zce) fun v31 h=>?_;cases h)<;>(refine yL 32 (ζk 5 Zce) fun v32 h=>?_;cases h)<;>(refine Zvb 33 (cA (Tryz.call12) hP) (fun va33 vb33 vc33 hva33 hvb33 hvc33=>?_);cases hva33;cases hvc33)<;>refine xL 30 ζb (xL 34 ζl (xL 35 ζl (xL 36 ζl (xL 7 ζc (xL 8 ζc (xL 9 ζc ?_))))))<;>refine ζd ?_)
        (refine ζa ?_<;>(refine yL 37 (ζk 2 Zce) fun v37 h=>?_;cases h)<;>refine xL 38 ζb (xL 39 (ZCM Tryz.underlying5 Tryz.underlying3) ?_)<;>(refine cD 40 (cA Tryz.call36 (hT)) fun v40 hv40=>?_;clear hv40)<;>refine ζs [(.int .i64 0),(.string ByteArray.empty),(.slice none 0 0)] 3 10 Zoh fun h10=>?_<;>refine ζt 10 Zce ?_<;>refine ζd ?_)
        (refine ζa ?_<;>(refine yL 42 (ζk 10 Zce) fun v42 h=>?_;cases h)<;>(refine yL 43 (ζk 2 Zce) fun v43 h=>?_;cases h)<;>(refine Zvb 44 (cA (Tryz.call12) hQ) (fun va44 vb44 vc44 hva44 hvb44 hvc44=>?_);cases hva44;cases hvc44)<;>refine xL 41 ζb (xL 45 ζl (xL 46 ζl (xL 47 ζl (xL 11 ζc (xL 12 ζc (xL 13 ζc ?_))))))<;>refine ζd ?_)
        (refine ζa ?_<;>refine xL 48 ζb (xL 49 ζ6 (xL 50 ζb ?_))<;>(refine bLd 50 (fun hb50=>?_) (fun hb50=>?_)<;>(first|refine kL 51 ?_|refine xL 51 ζb ?_))<;>refine xL 52 ζJ (xL 53 ζb ?_)<;>(first|refine kL 54 ?_|(refine bL 53 (fun hb53=>?_) (fun hb53=>?_)<;>(first|refine kL 54 ?_|refine xL 54 ζb ?_)))<;>(first|refine kL 55 ?_|refine xL 55 (ζU Zog) ?_)<;>(first|refine kL 56 ?_|refine xL 56 ζ6 ?_)<;>refine xL 57 ζJ (xL 58 ζb ?_)<;>(first|refine kL 59 ?_|refine xL 59 ζb ?_)<;>(first|refine kL 60 ?_|refine xL 60 ζ6 ?_)<;>refine xL 61 ζJ (xL 62 ζb ?_)<;>(first|refine xL 63 ζb ?_|(refine bLd 62 (fun hb62=>?_) (fun hb62=>?_)<;>(first|refine kL 63 ?_|refine xL 63 ζb ?_)))<;>(first|refine kL 64 ?_|refine xL 64 ζ6 ?_)<;>(first|refine kL 65 ?_|refine xL 65 ζb ?_)<;>(first|refine kL 66 ?_|(refine bLd 65 (fun hb65=>?_) (fun hb65=>?_)<;>(first|refine kL 66 ?_|refine xL 66 ζb ?_)))<;>(first|refine kL 67 ?_|refine xL 67 ζJ ?_)<;>(first|refine kL 68 ?_|refine xL 68 ζb ?_)<;>(first|refine kL 69 ?_|(refine bL 68 (fun hb68=>?_) (fun hb68=>?_)<;>(first|refine kL 69 ?_|refine xL 69 ζb ?_)))<;>(first|refine kL 70 ?_|refine xL 70 (ζU Zog) ?_)<;>(first|refine kL 71 ?_|refine xL 71 ζ6 ?_)<;>(first|refine kL 72 ?_|refine xL 72 ζJ ?_)<;>(first|refine kL 73 ?_|refine xL 73 ζb ?_)<;>(first|refine kL 74 ?_|refine xL 74 ζb ?_)<;>(first|refine kL 75 ?_|refine xL 75 ζ6 ?_)<;>(first|refine kL 76 ?_|refine xL 76 ζJ ?_)<;>refine xL 77 ζJ (xL 4 ζc ?_)<;>refine ζd ?_)<;>(
         refine ζx (Tryz.results8) rfl ?_;clear hP hQ hT hN hS hX hY;rcases hc with ⟨rfl,rfl⟩|⟨rfl,rfl⟩<;>rcases hd with ⟨rfl,rfl⟩|⟨rfl,rfl⟩<;>first|rfl|(exfalso;simp at hb50;done)|(exfalso;simp at hb53;done)|(exfalso;simp at hb58;done)|(exfalso;simp at hb62;done)|(exfalso;simp at hb65;done)|(exfalso;simp at hb68;done)|(exfalso;simp at hb73;done)|(exfalso;simp at hb77;done)|(exfalso;simp at hb52;done)|(exfalso;simp at hb57;done)|(exfalso;simp at hb61;done)|(exfalso;simp at hb67;done)|(exfalso;simp at hb72;done)|(exfalso;simp at hb76;done)))))
end Go.Proofs.YtgfabnhpllkebaaGreatDoor
