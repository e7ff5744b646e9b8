/- For the law FnStoreSave: walks of the functions that it reaches: each call returns what the plain function beside it tells. The conditions stand in each statement. -/
import Derived.Test.YtopboabeigakoaaGreatDoorV
import Derived.Test.YtopboabeigakoaaGreatDoorMFnStoreSavex0
import Derived.Test.YtopboabeigakoaaGreatDoorMFnStoreSavex6
import Derived.Test.YtopboabeigakoaaGreatDoorMFnStoreSavex7
import Derived.Test.YtopboabeigakoaaGreatDoorMFnStoreSavex8
import Derived.Test.YtopboabeigakoaaGreatDoorMFnStoreSavex9
namespace Go.Proofs.YtopboabeigakoaaGreatDoor.MFnStoreSave
open Go.RowKit Go.Proofs.YtopboabeigakoaaGreatDoorW.PrintWords Go.Proofs.YtopboabeigakoaaGreatDoorW.PrintLast Go.Proofs.YtopboabeigakoaaGreatDoorW.PrintMore
attribute [local go_sem] max2_int min2_int max_two min_two max_three min_three max_four min_four   -- for this text's walks alone
set_option linter.unusedVariables false
set_option linter.unusedSimpArgs false
set_option maxHeartbeats 8000000
set_option maxRecDepth 100000
def impl_doAll.l0:Nat→Int→List (S43)→Int→Int→List Int→Int→List Int→List (S35)→Option (List Int×Int×List Int×(List (S35))×Int)
 |0,_,_,_,_,_,_,_,_=>none
 |k+1,x6,x13,x14,x15,au,av,aw,ax=>if x15<x14 then (if 0≤x15 then (if x15<(x13.length:Int) then ((impl_DeskDo.f k au av aw ax ((rd_T43 x13 x15).f0) ((rd_T43 x13 x15).f1) ((rd_T43 x13 x15).f2)).bind fun aA=>(if aA.2.2.2.2=true then (impl_doAll.l0 k (wrap64 (x6+1)) x13 x14 (wrap64 (x15+1)) aA.1 aA.2.1 aA.2.2.1 aA.2.2.2.1) else (impl_doAll.l0 k x6 x13 x14 (wrap64 (x15+1)) au av aw ax))) else (none)) else (none)) else (some (au,av,aw,ax,x6))
def impl_doAll.f (k:Nat) (aB:List Int) (a0_1:Int) (aC:List Int) (aD:List (S35)) (l1:List (S43)):Option (List Int×Int×List Int×(List (S35))×Int):=(impl_copyDesk.f k aB a0_1 aC aD).bind fun aH=>(impl_doAll.l0 k 0 l1 (l1.length:Int) 0 aH.1 aH.2.1 aH.2.2.1 aH.2.2.2)
theorem impl_doAll.z0 {P_:Prop} (h_:P_:=by go_wp2_with (first|((with_reducible refine gate_dst (N:=17) rfl ?_);obtain ⟨p_,q_,ad_,e_,x0,x1,x2⟩:=a2_ (at_T43 (gC_ st k43 A1 l1) am);have ix_:=ix3_ Tryz.underlying30 e_ p_ q_ (c:=c1);clear e_;go_step)|((with_reducible refine gate_dst (N:=8) rfl ?_);refine al_ st ?_;clear st cl;intro g8 w_ st;have cl:=cl_ st)|((with_reducible refine gate_store (p:=8) rfl ?_);refine so3_ st ?_;clear st cl;intro w_ st;have cl:=cl_ st)|((with_reducible refine gate_callee (f:=27) rfl ?_);refine ca_ (some 22) Tryz.func27 _ (impl_DeskDo.calls k1 ag ah _ _ ai aj _ ak al _ _ _ _ _ _ _ _ _ _ (gt_ st) (gt_ st) (gt_ st) (gt_ st) (gt_ st) (gt_ st) (GWb.below HG.out st.b) A_22.out) ?_;rintro e w_ ⟨v0,v1,v2,rfl,h0,h1,h2,hb⟩;refine ⟨_,rfl,?_⟩;obtain ⟨B22_0,d22_0,rfl⟩:=Kd.R_slice h0;obtain ⟨B22_2,d22_2,rfl⟩:=Kd.R_slice h1;obtain ⟨B22_3,d22_3,rfl⟩:=Kd.V_slice h2;replace st:=st.p3 hb (st.mr h0) (st.mr h1) (st.mv h2);clear cl hb h0 h1 h2;have cl:=cl_ st)|((with_reducible refine gate_dst (N:=9) rfl ?_);refine al_ st ?_;clear st cl;intro g9 w_ st;have cl:=cl_ st)|((with_reducible refine gate_store (p:=9) rfl ?_);refine so4_ st ?_;clear st cl;intro w_ st;have cl:=cl_ st)|((with_reducible refine gate_store (p:=2) rfl ?_);refine so4_ st ?_;clear st cl;intro w_ st;have cl:=cl_ st)|((with_reducible refine gate_store (p:=4) rfl ?_);refine so4_ st ?_;clear st cl;intro w_ st;have cl:=cl_ st));first|(go_roundg k1;(case measure=>have:=HK1.out;omega);(case rel=>exact ⟨(wrap64 (aN+1)),(wrap64 (am+1)),(br),(bs),(bu),(bv),B22_0,d22_0,B22_2,d22_2,B22_3,d22_3,tx_,tx_,H',⟨by have:=HK1.out;omega⟩,st.en⟩))|(go_roundg k1;(case measure=>have:=HK1.out;omega);(case rel=>exact ⟨(aN),(wrap64 (am+1)),(ad),(ao),(ae),(af),ag,ah,ai,aj,ak,al,tx_,tx_,H',⟨by have:=HK1.out;omega⟩,st.en⟩))|(refine bodyPost_ret (rct_ st Tryz.underlying38) rfl ?_;exact ⟨.slice ag ad.length ah,.slice ai ae.length aj,.slice ak af.length al,tw_,gt_ st,gt_ st,gt_ st,st.b⟩)):P_:=h_
theorem impl_doAll.calls (k:Nat) (aY:Option Addr) (aZ:Nat) (aB:List Int) (a0_1:Int) (a5:Option Addr) (a6:Nat) (aC:List Int) (a7:Option Addr) (a8:Nat) (aD:List (S35)) (A1:Option Addr) (c1:Nat) (l1:List (S43)) (r1:List Int) (r2:Int) (r3:List Int) (r4:List (S35)) (r5:Int) (w:World) (hr0_0:Kd.C (Kd.int .i64) w aY aB.length aB) (hc0_0:aB.length≤aZ) (hr0_2:Kd.C (Kd.int .i64) w a5 aC.length aC) (hc0_2:aC.length≤a6) (hr0_3:Kd.C k35 w a7 aD.length aD) (hc0_3:aD.length≤a8) (hr1:Kd.C k43 w A1 l1.length l1) (hc1:l1.length≤c1) (hG:GWb w) (h:impl_doAll.f k aB a0_1 aC aD l1=some (r1,r2,r3,r4,r5)) :
  Calls Tryz.prog 72 #[.agg #[.slice aY aB.length aZ,.int .i64 a0_1,.slice a5 aC.length a6,.slice a7 aD.length a8],.slice A1 l1.length c1] w fun e w'=>∃v0_ v2_ v3_:Value,e=.returned (.tuple #[.agg #[v0_,.int .i64 r2,v2_,v3_],.int .i64 r5])∧Kd.R (Kd.int .i64) 3 w' w.heap.size (fun k_=>(w.heap.size≤k_)) v0_ r1∧Kd.R (Kd.int .i64) 3 w' w.heap.size (fun k_=>(w.heap.size≤k_)) v2_ r3∧Kd.V k35 35 w' w.heap.size (fun k_=>(w.heap.size≤k_)) v3_ r4∧Below w.heap.size w w':=by
 have HG:=A_ hG;clear hG;have hu38:=Tryz.underlying38;have hu43:=Tryz.underlying43;have st:=((((ST.nil w).c hr0_0 hc0_0).c hr0_2 hc0_2).c hr0_3 hc0_3).c hr1 hc1;have s0:=st;have cl:=cl_ st;have H:=h;clear h;unfold impl_doAll.f at H;go_enter Tryz.func72,Tryz.ntmps72;obtain ⟨⟨bw,bx,bz,bB⟩,A_12,H⟩:=bnd_ H;(try dsimp only at H);have H':=A_ H;clear H;go_wp2_with (first|((with_reducible refine gate_dst (N:=2) rfl ?_);refine al_ st ?_;clear st cl;intro g2 w_ st;have cl:=cl_ st)|((with_reducible refine gate_dst (N:=4) rfl ?_);refine al_ st ?_;clear st cl;intro g4 w_ st;have cl:=cl_ st)|((with_reducible refine gate_callee (f:=62) rfl ?_);refine ca_ (some 12) Tryz.func62 _ (impl_copyDesk.calls k aY aZ _ _ a5 a6 _ a7 a8 _ _ _ _ _ _ (gt_ st) (gt_ st) (gt_ st) (gt_ st) (gt_ st) (gt_ st) A_12.out) ?_;rintro e w_ ⟨v0,v1,v2,rfl,h0,h1,h2,hb⟩;refine ⟨_,rfl,?_⟩;obtain ⟨B12_0,d12_0,rfl⟩:=Kd.R_slice h0;obtain ⟨B12_2,d12_2,rfl⟩:=Kd.R_slice h1;obtain ⟨B12_3,d12_3,rfl⟩:=Kd.S_slice h2;replace st:=st.p3 hb (st.mr h0) (st.mr h1) (st.ms h2);clear cl hb h0 h1 h2;have cl:=cl_ st)|((with_reducible refine gate_store (p:=2) rfl ?_);refine so4_ st ?_;clear st cl;intro w_ st;have cl:=cl_ st))
 go_loopg [6,15] k (fun kq v6 bK w'=>∃(aN:Int) (am:Int) (ad:List Int) (ao:Int) (ae:List Int) (af:List (S35)) (ag:Option Addr) (ah:Nat) (ai:Option Addr) (aj:Nat) (ak:Option Addr) (al:Nat),v6=.int .i64 aN∧bK=.int .i64 am∧Aside0 (impl_doAll.l0 kq aN l1 (l1.length:Int) am ad ao ae af=some (r1,r2,r3,r4,r5))∧Aside0 (kq≤k)∧ST w [CA k43 w A1 l1 c1,AR (Kd.int .i64) 3 w.heap.size (.slice ag ad.length ah) ad,AR (Kd.int .i64) 3 w.heap.size (.slice ai ae.length aj) ae,AV k35 35 w.heap.size (.slice ak af.length al) af] [Bx g2 #[.slice ag ad.length ah,.int .i64 ao,.slice ai ae.length aj,.slice ak af.length al] 38,Bx g4 #[.slice none 0 0,.int .i64 0,.slice none 0 0,.slice none 0 0] 38] w')
 case atStart=>exact ⟨(0),(0),(bw),(bx),(bz),(bB),B12_0,d12_0,B12_2,d12_2,B12_3,d12_3,tx_,tx_,H',⟨Nat.le_refl _⟩,st.en⟩
 case round =>
  clear H' st cl;obtain ⟨aN,am,ad,ao,ae,af,ag,ah,ai,aj,ak,al,rfl,rfl,HA,HK1,st⟩:=hrel;have cl:=cl_ st
  cases gk with
  |zero=>exact absurd HA.out (by simp [impl_doAll.l0])
  |succ k1 =>
   have H:=HA.out;clear HA;simp only [impl_doAll.l0] at H;replace H:=it_ H;rcases H with ⟨aE,H⟩|⟨aE,H⟩
   ·
    replace H:=in_ H;obtain ⟨a9,H⟩:=H;replace H:=in_ H;obtain ⟨bk,H⟩:=H;obtain ⟨⟨br,bs,bu,bv,bC⟩,A_22,H⟩:=bnd_ H;(try dsimp only at H);rcases bx_ bC with rfl|rfl
    ·
     replace H:=bt_ H;have H':=A_ H;clear H;exact impl_doAll.z0
    ·
     replace H:=bf_ H;have H':=A_ H;clear H;exact impl_doAll.z0
   ·
    obtain ⟨rfl,rfl,rfl,rfl,rfl⟩:=sj5_ H;exact impl_doAll.z0
def impl_opened.f (k:Nat) (a0_0:ByteArray) (a0_1:ByteArray) (a0_2:Int):Option (List Int×Int×List Int×(List (S35))):=(impl_ReadPlace.f k a0_0).bind fun aO=>((impl_ReadJournal.f k a0_1).bind fun bl=>((impl_doAll.f k aO.1 aO.2.1 aO.2.2.1 ([]:List (S35)) bl.1).bind fun aI=>(some (aI.1,aI.2.1,aI.2.2.1,aI.2.2.2.1))))
theorem impl_opened.calls (k:Nat) (a0_0:ByteArray) (a0_1:ByteArray) (a0_2:Int) (r1:List Int) (r2:Int) (r3:List Int) (r4:List (S35)) (w:World) (hG:GWb w) (h:impl_opened.f k a0_0 a0_1 a0_2=some (r1,r2,r3,r4)) :
  Calls Tryz.prog 54 #[.agg #[.string a0_0,.string a0_1,.int .i64 a0_2]] w fun e w'=>∃v0_ v2_ v3_:Value,e=.returned (.agg #[v0_,.int .i64 r2,v2_,v3_])∧Kd.R (Kd.int .i64) 3 w' w.heap.size (fun k_=>(w.heap.size≤k_)) v0_ r1∧Kd.R (Kd.int .i64) 3 w' w.heap.size (fun k_=>(w.heap.size≤k_)) v2_ r3∧Kd.V k35 35 w' w.heap.size (fun k_=>(w.heap.size≤k_)) v3_ r4∧Below w.heap.size w w':=by
 have HG:=A_ hG;clear hG;have hu24:=Tryz.underlying24;have hu38:=Tryz.underlying38;have hu35:=Tryz.underlying35;have st:=ST.nil w;have s0:=st;have cl:=cl_ st;have H:=h;clear h;unfold impl_opened.f at H;go_enter Tryz.func54,Tryz.ntmps54;obtain ⟨⟨bL,bM,bN,bO⟩,A_12,H⟩:=bnd_ H;(try dsimp only at H);obtain ⟨⟨bP,bQ⟩,A_18,H⟩:=bnd_ H;(try dsimp only at H);obtain ⟨⟨bD,bR,bE,bF,bS⟩,A_25,H⟩:=bnd_ H;(try dsimp only at H);obtain ⟨rfl,rfl,rfl,rfl⟩:=sj4_ H;go_wp2_with (first|((with_reducible refine gate_dst (N:=1) rfl ?_);refine al_ st ?_;clear st cl;intro g1 w_ st;have cl:=cl_ st)|((with_reducible refine gate_dst (N:=2) rfl ?_);refine al_ st ?_;clear st cl;intro g2 w_ st;have cl:=cl_ st)|((with_reducible refine gate_callee (f:=35) rfl ?_);refine ca_ (some 12) Tryz.func35 _ (impl_ReadPlace.calls k _ _ _ _ _ _ (GWb.below HG.out st.b) A_12.out) ?_;rintro e w_ ⟨v0,v1,rfl,h0,h1,hb⟩;refine ⟨_,rfl,?_⟩;obtain ⟨B12_0,d12_0,rfl⟩:=Kd.R_slice h0;obtain ⟨B12_2,d12_2,rfl⟩:=Kd.R_slice h1;replace st:=st.p2 hb (st.mr h0) (st.mr h1);clear cl hb h0 h1;have cl:=cl_ st)|((with_reducible refine gate_dst (N:=3) rfl ?_);refine al_ st ?_;clear st cl;intro g3 w_ st;have cl:=cl_ st)|((with_reducible refine gate_store (p:=3) rfl ?_);refine so3_ st ?_;clear st cl;intro w_ st;have cl:=cl_ st)|((with_reducible refine gate_callee (f:=17) rfl ?_);refine ca_ (some 18) Tryz.func17 _ (impl_ReadJournal.calls k _ _ _ _ (GWb.below HG.out st.b) A_18.out) ?_;rintro e w_ ⟨v0,rfl,h0,hb⟩;refine ⟨_,rfl,?_⟩;obtain ⟨B18_0,d18_0,rfl⟩:=Kd.R_slice h0;replace st:=st.p1 hb (st.mr h0);clear cl hb h0;have cl:=cl_ st)|((with_reducible refine gate_callee (f:=72) rfl ?_);refine ca_ (some 25) Tryz.func72 _ (impl_doAll.calls k B12_0 d12_0 _ _ B12_2 d12_2 _ none 0 _ B18_0 d18_0 _ _ _ _ _ _ _ (gt_ st) (gt_ st) (gt_ st) (gt_ st) (Kd.C_nil _ _) (Nat.le_refl 0) (gt_ st) (gt_ st) (GWb.below HG.out st.b) A_25.out) ?_;rintro e w_ ⟨v0,v1,v2,rfl,h0,h1,h2,hb⟩;refine ⟨_,rfl,?_⟩;obtain ⟨B25_0,d25_0,rfl⟩:=Kd.R_slice h0;obtain ⟨B25_2,d25_2,rfl⟩:=Kd.R_slice h1;obtain ⟨B25_3,d25_3,rfl⟩:=Kd.V_slice h2;replace st:=st.p3 hb (st.mr h0) (st.mr h1) (st.mv h2);clear cl hb h0 h1 h2;have cl:=cl_ st)|((with_reducible refine gate_dst (N:=7) rfl ?_);refine al_ st ?_;clear st cl;intro g7 w_ st;have cl:=cl_ st)|((with_reducible refine gate_store (p:=7) rfl ?_);refine so4_ st ?_;clear st cl;intro w_ st;have cl:=cl_ st)|((with_reducible refine gate_store (p:=2) rfl ?_);refine so4_ st ?_;clear st cl;intro w_ st;have cl:=cl_ st));refine bodyPost_ret (rcc_ st Tryz.underlying38) rfl ?_;exact ⟨.slice B25_0 bD.length d25_0,.slice B25_2 bE.length d25_2,.slice B25_3 bF.length d25_3,tw_,gt_ st,gt_ st,gt_ st,st.b⟩
def impl_StoreOpen.f (k:Nat) (a0_0:ByteArray) (a0_1:ByteArray) (a0_2:Int):Option (List Int×Int×List Int×(List (S35))×Bool):=(impl_StoreOk.f k a0_0 a0_1 a0_2).bind fun bb=>(if bb=true then ((impl_opened.f k a0_0 a0_1 a0_2).bind fun aJ=>(some (aJ.1,aJ.2.1,aJ.2.2.1,aJ.2.2.2,true))) else (some (([]:List Int),0,([]:List Int),([]:List (S35)),false)))
theorem impl_StoreOpen.z0 {P_:Prop} (h_:P_:=by go_wp2_with (first|((with_reducible refine gate_dst (N:=1) rfl ?_);refine al_ st ?_;clear st cl;intro g1 w_ st;have cl:=cl_ st)|((with_reducible refine gate_dst (N:=2) rfl ?_);refine al_ st ?_;clear st cl;intro g2 w_ st;have cl:=cl_ st)|((with_reducible refine gate_callee (f:=15) rfl ?_);refine ca_ (some 5) Tryz.func15 _ (impl_StoreOk.calls k _ _ _ _ _ (GWb.below HG.out st.b) A_5.out) ?_;rintro e w_ ⟨rfl,hb⟩;refine ⟨_,rfl,?_⟩;replace st:=st.ev hb;clear cl hb;have cl:=cl_ st)|((with_reducible refine gate_callee (f:=54) rfl ?_);refine ca_ (some 9) Tryz.func54 _ (impl_opened.calls k _ _ _ _ _ _ _ _ (GWb.below HG.out st.b) A_9.out) ?_;rintro e w_ ⟨v0,v1,v2,rfl,h0,h1,h2,hb⟩;refine ⟨_,rfl,?_⟩;obtain ⟨B9_0,d9_0,rfl⟩:=Kd.R_slice h0;obtain ⟨B9_2,d9_2,rfl⟩:=Kd.R_slice h1;obtain ⟨B9_3,d9_3,rfl⟩:=Kd.V_slice h2;replace st:=st.p3 hb (st.mr h0) (st.mr h1) (st.mv h2);clear cl hb h0 h1 h2;have cl:=cl_ st)|((with_reducible refine gate_store (p:=2) rfl ?_);refine so4_ st ?_;clear st cl;intro w_ st;have cl:=cl_ st));first|(refine bodyPost_ret (rct_ st Tryz.underlying38) rfl ?_;exact ⟨.slice B9_0 bG.length d9_0,.slice B9_2 bH.length d9_2,.slice B9_3 bI.length d9_3,tw_,gt_ st,gt_ st,gt_ st,st.b⟩)|(refine bodyPost_ret (rct_ st Tryz.underlying38) rfl ?_;exact ⟨.slice none 0 0,.slice none 0 0,.slice none 0 0,tw_,kn_,kn_,kn_,st.b⟩)):P_:=h_
theorem impl_StoreOpen.calls (k:Nat) (a0_0:ByteArray) (a0_1:ByteArray) (a0_2:Int) (r1:List Int) (r2:Int) (r3:List Int) (r4:List (S35)) (r5:Bool) (w:World) (hG:GWb w) (h:impl_StoreOpen.f k a0_0 a0_1 a0_2=some (r1,r2,r3,r4,r5)) :
  Calls Tryz.prog 18 #[.agg #[.string a0_0,.string a0_1,.int .i64 a0_2]] w fun e w'=>∃v0_ v2_ v3_:Value,e=.returned (.tuple #[.agg #[v0_,.int .i64 r2,v2_,v3_],.bool r5])∧Kd.R (Kd.int .i64) 3 w' w.heap.size (fun k_=>(w.heap.size≤k_)) v0_ r1∧Kd.R (Kd.int .i64) 3 w' w.heap.size (fun k_=>(w.heap.size≤k_)) v2_ r3∧Kd.V k35 35 w' w.heap.size (fun k_=>(w.heap.size≤k_)) v3_ r4∧Below w.heap.size w w':=by
 have HG:=A_ hG;clear hG;have hu24:=Tryz.underlying24;have hu38:=Tryz.underlying38;have st:=ST.nil w;have s0:=st;have cl:=cl_ st;have H:=h;clear h;unfold impl_StoreOpen.f at H;go_enter Tryz.func18,Tryz.ntmps18;obtain ⟨bb,A_5,H⟩:=bnd_ H;rcases bx_ bb with rfl|rfl
 ·
  replace H:=bt_ H;obtain ⟨⟨bG,bU,bH,bI⟩,A_9,H⟩:=bnd_ H;(try dsimp only at H);obtain ⟨rfl,rfl,rfl,rfl,rfl⟩:=sj5_ H;exact impl_StoreOpen.z0
 ·
  replace H:=bf_ H;obtain ⟨rfl,rfl,rfl,rfl,rfl⟩:=sj5_ H;exact impl_StoreOpen.z0
def spec_l1In.f (a0:Int) (a1:Int) (a2:Int):Option (Bool):=if a0≥a1 then (some (decide (a0≤a2))) else (some false)
theorem spec_l1In.calls (a0:Int) (a1:Int) (a2:Int) (r:Bool) (w:World) (h:spec_l1In.f a0 a1 a2=some r) :
  Calls Tryz.prog 69 #[.int .i64 a0,.int .i64 a1,.int .i64 a2] w fun e w'=>e=.returned (.bool r)∧Drawn0 w w':=by
 have H:(if a0≥a1 then (some (decide (a0≤a2))) else (some false))=some r:=h;clear h;replace H:=ih_ H;rcases H with ⟨aE,H⟩|⟨aE,H⟩
 ·
  obtain rfl:=Option.some.inj H;go_enter Tryz.func69,Tryz.ntmps69;go_wp2;go_ret;exact ⟨tx_,dz_⟩
 ·
  obtain rfl:=Option.some.inj H;go_enter Tryz.func69,Tryz.ntmps69;go_wp2;go_ret;exact ⟨tx_,dz_⟩
def spec_UrnOk.l0:Nat→List Int→Int→Option (Bool)
 |0,_,_=>none
 |k+1,x0,x3=>if x3<(x0.length:Int) then (if 0≤x3 then ((spec_l1In.f (rd x0 x3) 0 40).bind fun bc=>(if bc=true then (spec_UrnOk.l0 k x0 (wrap64 (x3+1))) else (some false))) else (none)) else ((spec_l1In.f (x0.length:Int) 1 3).bind fun bd=>(some bd))
def spec_UrnOk.f (k:Nat) (l0:List Int):Option (Bool):=spec_UrnOk.l0 k l0 0
theorem spec_UrnOk.calls (k:Nat) (A0:Option Addr) (c0:Nat) (l0:List Int) (r:Bool) (w:World) (hr0:Kd.C (Kd.int .i64) w A0 l0.length l0) (hc0:l0.length≤c0) (h:spec_UrnOk.f k l0=some r) :
  Calls Tryz.prog 142 #[.slice A0 l0.length c0] w fun e w'=>e=.returned (.bool r)∧Drawn0 w w':=by
 have HR0:=A_ hr0;have HC0:=A_ hc0;clear hr0 hc0;have H:(spec_UrnOk.l0 k l0 0)=some r:=h;clear h;have H':=A_ H;clear H;go_enter Tryz.func142,Tryz.ntmps142;go_wp2
 go_loopg [3] k (fun kq v3 w'=>∃(ac:Int),v3=.int .i64 ac∧Aside0 (spec_UrnOk.l0 kq l0 ac=some r)∧Aside0 (kq≤k)∧Drawn0 w w')
 case atStart=>exact ⟨(0),tx_,H',⟨Nat.le_refl _⟩,dz_⟩
 case round =>
  clear H';obtain ⟨ac,rfl,HA,HK1,⟨m1,rfl⟩⟩:=hrel
  cases gk with
  |zero=>exact absurd HA.out (by simp [spec_UrnOk.l0])
  |succ k1 =>
   have H:=HA.out;clear HA;simp only [spec_UrnOk.l0] at H;replace H:=it_ H;rcases H with ⟨be,H⟩|⟨be,H⟩
   ·
    replace H:=in_ H;obtain ⟨aR,H⟩:=H;obtain ⟨bc,A4,H⟩:=bnd_ H;(try dsimp only at H);by_cases c5:bc=true
    ·
     subst c5;replace H:(spec_UrnOk.l0 k1 l0 (wrap64 (ac+1)))=some r:=by rw [if_pos rfl] at H;exact H
     have H':=A_ H;clear H;obtain ⟨p444,q444,ad444,e444,aU⟩:=a2_ (Kd.at_int HR0.out ac);cases e444;go_wp2_with (first|((with_reducible refine gate_callee (f:=69) rfl ?_);refine gl_ (some 14) Tryz.func69 #[.int .i64 (rd l0 ac),.int .i64 0,.int .i64 40] ?_;(with_reducible refine (spec_l1In.calls (rd l0 ac) 0 40 true _ A4.out).mono ?_);rintro e w' ⟨rfl,⟨nd,rfl⟩⟩;refine ⟨_,rfl,?_⟩))
     go_roundg k1
     case measure=>have:=HK1.out;omega
     case rel=>exact ⟨(wrap64 (ac+1)),tx_,H',⟨by have:=HK1.out;omega⟩,dz_⟩
    ·
     replace c5:=Bool.eq_false_iff.mpr c5;subst c5;replace H:(some false)=some r:=by rw [if_neg (show ¬(false=true) by decide)] at H;exact H
     obtain rfl:=Option.some.inj H;obtain ⟨p444,q444,ad444,e444,aU⟩:=a2_ (Kd.at_int HR0.out ac);cases e444;go_wp2_with (first|((with_reducible refine gate_callee (f:=69) rfl ?_);refine gl_ (some 14) Tryz.func69 #[.int .i64 (rd l0 ac),.int .i64 0,.int .i64 40] ?_;(with_reducible refine (spec_l1In.calls (rd l0 ac) 0 40 false _ A4.out).mono ?_);rintro e w' ⟨rfl,⟨nd,rfl⟩⟩;refine ⟨_,rfl,?_⟩));go_ret;exact ⟨tx_,dz_⟩
   ·
    obtain ⟨bd,A6,H⟩:=bnd_ H;(try dsimp only at H);obtain rfl:=Option.some.inj H;go_wp2_with (first|((with_reducible refine gate_callee (f:=69) rfl ?_);refine gl_ (some 18) Tryz.func69 #[.int .i64 (l0.length:Int),.int .i64 1,.int .i64 3] ?_;(with_reducible refine (spec_l1In.calls (l0.length:Int) 1 3 bd _ A6.out).mono ?_);rintro e w' ⟨rfl,⟨nd,rfl⟩⟩;refine ⟨_,rfl,?_⟩));go_ret;exact ⟨tx_,dz_⟩
def spec_StartOk.l0:Nat→List Int→Int→Option (Bool)
 |0,_,_=>none
 |k+1,x0,x3=>if x3<(x0.length:Int) then (if 0≤x3 then (if (rd x0 x3)>10 then (some false) else (spec_StartOk.l0 k x0 (wrap64 (x3+1)))) else (none)) else ((spec_UrnOk.f k x0).bind fun bf=>(some bf))
def spec_StartOk.f (k:Nat) (l0:List Int):Option (Bool):=spec_StartOk.l0 k l0 0
theorem spec_StartOk.calls (k:Nat) (A0:Option Addr) (c0:Nat) (l0:List Int) (r:Bool) (w:World) (hr0:Kd.C (Kd.int .i64) w A0 l0.length l0) (hc0:l0.length≤c0) (h:spec_StartOk.f k l0=some r) :
  Calls Tryz.prog 119 #[.slice A0 l0.length c0] w fun e w'=>e=.returned (.bool r)∧Drawn0 w w':=by
 have HR0:=A_ hr0;have HC0:=A_ hc0;clear hr0 hc0;have H:(spec_StartOk.l0 k l0 0)=some r:=h;clear h;have H':=A_ H;clear H;go_enter Tryz.func119,Tryz.ntmps119;go_wp2
 go_loopg [3] k (fun kq v3 w'=>∃(ac:Int),v3=.int .i64 ac∧Aside0 (spec_StartOk.l0 kq l0 ac=some r)∧Aside0 (kq≤k)∧Drawn0 w w')
 case atStart=>exact ⟨(0),tx_,H',⟨Nat.le_refl _⟩,dz_⟩
 case round =>
  clear H';obtain ⟨ac,rfl,HA,HK1,⟨m1,rfl⟩⟩:=hrel
  cases gk with
  |zero=>exact absurd HA.out (by simp [spec_StartOk.l0])
  |succ k1 =>
   have H:=HA.out;clear HA;simp only [spec_StartOk.l0] at H;replace H:=it_ H;rcases H with ⟨be,H⟩|⟨be,H⟩
   ·
    replace H:=in_ H;obtain ⟨aR,H⟩:=H;replace H:=ig_ H;rcases H with ⟨aE,H⟩|⟨aE,H⟩
    ·
     obtain rfl:=Option.some.inj H;obtain ⟨p447,q447,ad447,e447,aV⟩:=a2_ (Kd.at_int HR0.out ac);cases e447;go_wp2;go_ret;exact ⟨tx_,dz_⟩
    ·
     have H':=A_ H;clear H;obtain ⟨p447,q447,ad447,e447,aV⟩:=a2_ (Kd.at_int HR0.out ac);cases e447;go_wp2
     go_roundg k1
     case measure=>have:=HK1.out;omega
     case rel=>exact ⟨(wrap64 (ac+1)),tx_,H',⟨by have:=HK1.out;omega⟩,dz_⟩
   ·
    obtain ⟨bf,A5,H⟩:=bnd_ H;(try dsimp only at H);obtain rfl:=Option.some.inj H;go_wp2_with (first|((with_reducible refine gate_callee (f:=142) rfl ?_);refine gl_ (some 16) Tryz.func142 #[.slice A0 l0.length c0] ?_;(with_reducible refine (spec_UrnOk.calls k1 _ _ l0 bf _ ?s1 ?s2 A5.out).mono ?_);(case s1=>exact td_);(case s2=>exact HC0.out);rintro e w' ⟨rfl,⟨nd,rfl⟩⟩;refine ⟨_,rfl,?_⟩));go_ret;exact ⟨tx_,dz_⟩
mutual
def spec_RuleOk.l0:Nat→Int→List (List Int)→Int→Option (Bool)
 |0,_,_,_=>none
 |k+1,x0,x1,x5=>if x5<(x1.length:Int) then (if 0≤x5 then (if ((rd_L1 x1 x5).length:Int)=x0 then (spec_RuleOk.l1 k x0 x1 x5 0) else (some false)) else (none)) else ((spec_l1In.f x0 1 3).bind fun bg=>(if bg=true then (some ((x1.length:Int) == x0)) else (some false)))
def spec_RuleOk.l1:Nat→Int→List (List Int)→Int→Int→Option (Bool)
 |0,_,_,_,_=>none
 |k+1,x0,x1,x5,x6=>if x6<x0 then (if 0≤x5 then (if x5<(x1.length:Int) then (if 0≤x6 then (if x6<((rd_L1 x1 x5).length:Int) then ((spec_l1In.f (rd (rd_L1 x1 x5) x6) 0 3).bind fun bh=>(if bh=true then (spec_RuleOk.l1 k x0 x1 x5 (wrap64 (x6+1))) else (if (rd (rd_L1 x1 x5) x6)=(-1) then (if x6=x5 then (spec_RuleOk.l1 k x0 x1 x5 (wrap64 (x6+1))) else (some false)) else (some false)))) else (none)) else (none)) else (none)) else (none)) else (spec_RuleOk.l0 k x0 x1 (wrap64 (x5+1)))
end
def spec_RuleOk.f (k:Nat) (a0:Int) (l1:List (List Int)):Option (Bool):=spec_RuleOk.l0 k a0 l1 0
theorem spec_RuleOk.mono_l:∀k,(∀y0 y1 y2,LeO (spec_RuleOk.l0 k y0 y1 y2) (spec_RuleOk.l0 (k+1) y0 y1 y2))∧(∀y0 y1 y2 y3,LeO (spec_RuleOk.l1 k y0 y1 y2 y3) (spec_RuleOk.l1 (k+1) y0 y1 y2 y3))
 |0=>⟨fun _ _ _ r h=>by simp [spec_RuleOk.l0] at h,fun _ _ _ _ r h=>by simp [spec_RuleOk.l1] at h⟩
 |k+1=>by
  obtain ⟨ih0,ih1⟩:=spec_RuleOk.mono_l k
  refine ⟨?_,?_⟩
  ·
   intro y0 y1 y2
   unfold spec_RuleOk.l0
   repeat' (with_reducible first|exact ih0 _ _ _|exact ih1 _ _ _ _|exact mr_|exact mn_|refine mi_ ?_ ?_|refine mb_ ?_ (fun _=>?_))
  ·
   intro y0 y1 y2 y3
   unfold spec_RuleOk.l1
   repeat' (with_reducible first|exact ih0 _ _ _|exact ih1 _ _ _ _|exact mr_|exact mn_|refine mi_ ?_ ?_|refine mb_ ?_ (fun _=>?_))
theorem spec_RuleOk.mono:∀a0 a1 k,LeO (spec_RuleOk.f k a0 a1) (spec_RuleOk.f (k+1) a0 a1):=by
 intro a0 a1 k;obtain ⟨ih0,ih1⟩:=spec_RuleOk.mono_l k;unfold spec_RuleOk.f;repeat' (with_reducible first|exact ih0 _ _ _|exact ih1 _ _ _ _|exact mr_|exact mn_|refine mi_ ?_ ?_|refine mb_ ?_ (fun _=>?_))
theorem spec_RuleOk.calls (k:Nat) (a0:Int) (A1:Option Addr) (c1:Nat) (l1:List (List Int)) (r:Bool) (w:World) (hr1:Kd.C (Kd.slice 3 (Kd.int .i64)) w A1 l1.length l1) (hc1:l1.length≤c1) (h:spec_RuleOk.f k a0 l1=some r) :
  Calls Tryz.prog 143 #[.int .i64 a0,.slice A1 l1.length c1] w fun e w'=>e=.returned (.bool r)∧Drawn0 w w':=by
 have HR1:=A_ hr1;have HC1:=A_ hc1;clear hr1 hc1;have H:(spec_RuleOk.l0 k a0 l1 0)=some r:=h;clear h;have H':=A_ H;clear H;go_enter Tryz.func143,Tryz.ntmps143;go_wp2
 go_loopg [5] k (fun kq v5 w'=>∃(aa:Int),v5=.int .i64 aa∧Aside0 (spec_RuleOk.l0 kq a0 l1 aa=some r)∧Aside0 (kq≤k)∧Drawn0 w w')
 case atStart=>exact ⟨(0),tx_,H',⟨Nat.le_refl _⟩,dz_⟩
 case round =>
  clear H';obtain ⟨aa,rfl,HA,HK1,⟨m1,rfl⟩⟩:=hrel
  cases gk with
  |zero=>exact absurd HA.out (by simp [spec_RuleOk.l0])
  |succ k1 =>
   have H:=HA.out;clear HA;simp only [spec_RuleOk.l0] at H;replace H:=it_ H;rcases H with ⟨aR,H⟩|⟨aR,H⟩
   ·
    replace H:=in_ H;obtain ⟨aE,H⟩:=H;by_cases c5:((rd_L1 l1 aa).length:Int)=a0
    ·
     rw [if_pos c5] at H;have a9:(((rd_L1 l1 aa).length:Int) == a0)=true:=beq_iff_eq.mpr c5;have bm:(((rd_L1 l1 aa).length:Int) != a0)=false:=bne_eq_false_iff_eq.mpr c5;clear c5;have H':=A_ H;clear H;obtain ⟨p450,q450,ad450,bi,bj,e450,aK,hl450_0,hi450_0⟩:=a2_ (at_L1 HR1.out aa);cases e450;have aW:=A_ hi450_0;have aX:=A_ hl450_0;clear hi450_0 hl450_0;go_wp2
     go_loopg [6] k1 (fun kq v6 w'=>∃(ab:Int),v6=.int .i64 ab∧Aside0 (spec_RuleOk.l1 kq a0 l1 aa ab=some r)∧Aside0 (kq≤k1)∧Drawn0 w w')
     case atStart=>exact ⟨(0),tx_,H',⟨Nat.le_refl _⟩,dz_⟩
     case round =>
      clear H';(try clear c3);(try clear aR);(try clear c4);(try clear aE);(try clear c5);(try clear a9);(try clear bm);(try clear aK);(try clear p450);(try clear q450);obtain ⟨ab,rfl,HA,HK2,⟨m2,rfl⟩⟩:=hrel
      cases gk with
      |zero=>exact absurd HA.out (by simp [spec_RuleOk.l1])
      |succ k2 =>
       have H:=HA.out;clear HA;simp only [spec_RuleOk.l1] at H;replace H:=it_ H;rcases H with ⟨bk,H⟩|⟨bk,H⟩
       ·
        replace H:=in_ H;obtain ⟨bV,H⟩:=H;replace H:=in_ H;obtain ⟨bW,H⟩:=H;replace H:=in_ H;obtain ⟨bX,H⟩:=H;replace H:=in_ H;obtain ⟨bJ,H⟩:=H;obtain ⟨bh,A11,H⟩:=bnd_ H;(try dsimp only at H);by_cases c12:bh=true
        ·
         subst c12;replace H:(spec_RuleOk.l1 k2 a0 l1 aa (wrap64 (ab+1)))=some r:=by rw [if_pos rfl] at H;exact H
         have H':=A_ H;clear H;have p451:0≤(aa:Int):=od_;have q451:aa<(l1.length:Int):=od_;obtain ⟨ad451,aF,aG,e451,ap,hl451_0,hi451_0⟩:=at_L1 HR1.out aa p451 q451;obtain rfl:ad450=ad451:=(by injection e451)
         have an:=A_ hi451_0;have ay:=A_ hl451_0;clear hi451_0 hl451_0;replace p451:=eq_true p451;replace q451:=eq_true q451;obtain ⟨p452,q452,ad452,e452,az⟩:=a2_ (Kd.at_int an.out ab);cases e452;go_wp2_with (first|((with_reducible refine gate_callee (f:=69) rfl ?_);refine gl_ (some 32) Tryz.func69 #[.int .i64 (rd (rd_L1 l1 aa) ab),.int .i64 0,.int .i64 3] ?_;(with_reducible refine (spec_l1In.calls (rd (rd_L1 l1 aa) ab) 0 3 true _ A11.out).mono ?_);rintro e w' ⟨rfl,⟨nd,rfl⟩⟩;refine ⟨_,rfl,?_⟩))
         go_roundg k2
         case measure=>have:=HK1.out;have:=HK2.out;omega
         case rel=>exact ⟨(wrap64 (ab+1)),tx_,H',⟨by have:=HK1.out;have:=HK2.out;omega⟩,dz_⟩
        ·
         replace c12:=Bool.eq_false_iff.mpr c12;subst c12;replace H:(if (rd (rd_L1 l1 aa) ab)=(-1) then (if ab=aa then (spec_RuleOk.l1 k2 a0 l1 aa (wrap64 (ab+1))) else (some false)) else (some false))=some r:=by rw [if_neg (show ¬(false=true) by decide)] at H;exact H
         by_cases c13:(rd (rd_L1 l1 aa) ab)=(-1)
         ·
          rw [if_pos c13] at H;have bn:((rd (rd_L1 l1 aa) ab) == (-1))=true:=beq_iff_eq.mpr c13;have bo:((rd (rd_L1 l1 aa) ab) != (-1))=false:=bne_eq_false_iff_eq.mpr c13;clear c13;by_cases c14:ab=aa
          ·
           rw [if_pos c14] at H;have bp:(ab == aa)=true:=beq_iff_eq.mpr c14;have bq:(ab != aa)=false:=bne_eq_false_iff_eq.mpr c14;clear c14;have H':=A_ H;clear H;have p451:0≤(aa:Int):=od_;have q451:aa<(l1.length:Int):=od_;obtain ⟨ad451,aF,aG,e451,ap,hl451_0,hi451_0⟩:=at_L1 HR1.out aa p451 q451;obtain rfl:ad450=ad451:=(by injection e451)
           have an:=A_ hi451_0;have ay:=A_ hl451_0;clear hi451_0 hl451_0;replace p451:=eq_true p451;replace q451:=eq_true q451;obtain ⟨p452,q452,ad452,e452,az⟩:=a2_ (Kd.at_int an.out ab);cases e452;go_wp2_with (first|((with_reducible refine gate_callee (f:=69) rfl ?_);refine gl_ (some 32) Tryz.func69 #[.int .i64 (rd (rd_L1 l1 aa) ab),.int .i64 0,.int .i64 3] ?_;(with_reducible refine (spec_l1In.calls (rd (rd_L1 l1 aa) ab) 0 3 false _ A11.out).mono ?_);rintro e w' ⟨rfl,⟨nd,rfl⟩⟩;refine ⟨_,rfl,?_⟩;have p454:0≤(aa:Int):=od_;have q454:aa<(l1.length:Int):=od_;obtain ⟨ad454,aP,aQ,e454,aq,hl454_0,hi454_0⟩:=at_L1 HR1.out aa p454 q454;obtain rfl:ad450=ad454:=(by injection e454);have ar:=A_ hi454_0;have aL:=A_ hl454_0;clear hi454_0 hl454_0;replace p454:=eq_true p454;replace q454:=eq_true q454;have ea_:=Option.some.inj (ap.symm.trans aq);injection ea_ with ea_ en_ ec_;subst ea_;subst ec_;clear en_;obtain ⟨p455,q455,ad455,e455,aM⟩:=a2_ (Kd.at_int ar.out ab);cases e455))
           go_roundg k2
           case measure=>have:=HK1.out;have:=HK2.out;omega
           case rel=>exact ⟨(wrap64 (ab+1)),tx_,H',⟨by have:=HK1.out;have:=HK2.out;omega⟩,dz_⟩
          ·
           rw [if_neg c14] at H;have bp:(ab == aa)=false:=beq_eq_false_iff_ne.mpr c14;have bq:(ab != aa)=true:=bne_iff_ne.mpr c14;obtain rfl:=Option.some.inj H;have p451:0≤(aa:Int):=od_;have q451:aa<(l1.length:Int):=od_;obtain ⟨ad451,aF,aG,e451,ap,hl451_0,hi451_0⟩:=at_L1 HR1.out aa p451 q451;obtain rfl:ad450=ad451:=(by injection e451)
           have an:=A_ hi451_0;have ay:=A_ hl451_0;clear hi451_0 hl451_0;replace p451:=eq_true p451;replace q451:=eq_true q451;obtain ⟨p452,q452,ad452,e452,az⟩:=a2_ (Kd.at_int an.out ab);cases e452;go_wp2_with (first|((with_reducible refine gate_callee (f:=69) rfl ?_);refine gl_ (some 32) Tryz.func69 #[.int .i64 (rd (rd_L1 l1 aa) ab),.int .i64 0,.int .i64 3] ?_;(with_reducible refine (spec_l1In.calls (rd (rd_L1 l1 aa) ab) 0 3 false _ A11.out).mono ?_);rintro e w' ⟨rfl,⟨nd,rfl⟩⟩;refine ⟨_,rfl,?_⟩;have p454:0≤(aa:Int):=od_;have q454:aa<(l1.length:Int):=od_;obtain ⟨ad454,aP,aQ,e454,aq,hl454_0,hi454_0⟩:=at_L1 HR1.out aa p454 q454;obtain rfl:ad450=ad454:=(by injection e454);have ar:=A_ hi454_0;have aL:=A_ hl454_0;clear hi454_0 hl454_0;replace p454:=eq_true p454;replace q454:=eq_true q454;have ea_:=Option.some.inj (ap.symm.trans aq);injection ea_ with ea_ en_ ec_;subst ea_;subst ec_;clear en_;obtain ⟨p455,q455,ad455,e455,aM⟩:=a2_ (Kd.at_int ar.out ab);cases e455));go_ret;exact ⟨tx_,dz_⟩
         ·
          rw [if_neg c13] at H;have bn:((rd (rd_L1 l1 aa) ab) == (-1))=false:=beq_eq_false_iff_ne.mpr c13;have bo:((rd (rd_L1 l1 aa) ab) != (-1))=true:=bne_iff_ne.mpr c13;obtain rfl:=Option.some.inj H;have p451:0≤(aa:Int):=od_;have q451:aa<(l1.length:Int):=od_;obtain ⟨ad451,aF,aG,e451,ap,hl451_0,hi451_0⟩:=at_L1 HR1.out aa p451 q451;obtain rfl:ad450=ad451:=(by injection e451)
          have an:=A_ hi451_0;have ay:=A_ hl451_0;clear hi451_0 hl451_0;replace p451:=eq_true p451;replace q451:=eq_true q451;obtain ⟨p452,q452,ad452,e452,az⟩:=a2_ (Kd.at_int an.out ab);cases e452;go_wp2_with (first|((with_reducible refine gate_callee (f:=69) rfl ?_);refine gl_ (some 32) Tryz.func69 #[.int .i64 (rd (rd_L1 l1 aa) ab),.int .i64 0,.int .i64 3] ?_;(with_reducible refine (spec_l1In.calls (rd (rd_L1 l1 aa) ab) 0 3 false _ A11.out).mono ?_);rintro e w' ⟨rfl,⟨nd,rfl⟩⟩;refine ⟨_,rfl,?_⟩;have p454:0≤(aa:Int):=od_;have q454:aa<(l1.length:Int):=od_;obtain ⟨ad454,aP,aQ,e454,aq,hl454_0,hi454_0⟩:=at_L1 HR1.out aa p454 q454;obtain rfl:ad450=ad454:=(by injection e454);have ar:=A_ hi454_0;have aL:=A_ hl454_0;clear hi454_0 hl454_0;replace p454:=eq_true p454;replace q454:=eq_true q454;have ea_:=Option.some.inj (ap.symm.trans aq);injection ea_ with ea_ en_ ec_;subst ea_;subst ec_;clear en_;obtain ⟨p455,q455,ad455,e455,aM⟩:=a2_ (Kd.at_int ar.out ab);cases e455));go_ret;exact ⟨tx_,dz_⟩
       ·
        have H':=A_ H;clear H;go_wp2
        go_roundg k2
        case measure=>have:=HK1.out;have:=HK2.out;omega
        case rel=>exact ⟨(wrap64 (aa+1)),tx_,H',⟨by have:=HK1.out;have:=HK2.out;omega⟩,dz_⟩
    ·
     rw [if_neg c5] at H;have a9:(((rd_L1 l1 aa).length:Int) == a0)=false:=beq_eq_false_iff_ne.mpr c5;have bm:(((rd_L1 l1 aa).length:Int) != a0)=true:=bne_iff_ne.mpr c5;obtain rfl:=Option.some.inj H;obtain ⟨p450,q450,ad450,bi,bj,e450,aK,hl450_0,hi450_0⟩:=a2_ (at_L1 HR1.out aa);cases e450;have aW:=A_ hi450_0;have aX:=A_ hl450_0;clear hi450_0 hl450_0;go_wp2;go_ret;exact ⟨tx_,dz_⟩
   ·
    obtain ⟨bg,A15,H⟩:=bnd_ H;(try dsimp only at H);by_cases c16:bg=true
    ·
     subst c16;replace H:(some ((l1.length:Int) == a0))=some r:=by rw [if_pos rfl] at H;exact H
     obtain rfl:=Option.some.inj H;go_wp2_with (first|((with_reducible refine gate_callee (f:=69) rfl ?_);refine gl_ (some 51) Tryz.func69 #[.int .i64 a0,.int .i64 1,.int .i64 3] ?_;(with_reducible refine (spec_l1In.calls a0 1 3 true _ A15.out).mono ?_);rintro e w' ⟨rfl,⟨nd,rfl⟩⟩;refine ⟨_,rfl,?_⟩));go_ret;exact ⟨tx_,dz_⟩
    ·
     replace c16:=Bool.eq_false_iff.mpr c16;subst c16;replace H:(some false)=some r:=by rw [if_neg (show ¬(false=true) by decide)] at H;exact H
     obtain rfl:=Option.some.inj H;go_wp2_with (first|((with_reducible refine gate_callee (f:=69) rfl ?_);refine gl_ (some 51) Tryz.func69 #[.int .i64 a0,.int .i64 1,.int .i64 3] ?_;(with_reducible refine (spec_l1In.calls a0 1 3 false _ A15.out).mono ?_);rintro e w' ⟨rfl,⟨nd,rfl⟩⟩;refine ⟨_,rfl,?_⟩));go_ret;exact ⟨tx_,dz_⟩
end Go.Proofs.YtopboabeigakoaaGreatDoor.MFnStoreSave
