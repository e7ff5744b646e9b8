/- For the law FnStoreNever: walks of the functions that it reaches: each call returns what the plain function beside it tells. The conditions stand in each statement. -/
import Derived.Test.YtopboabeigakoaaGreatDoorV
import Derived.Test.YtopboabeigakoaaGreatDoorMFnStoreNeverx0
import Derived.Test.YtopboabeigakoaaGreatDoorMFnStoreNeverx3
import Derived.Test.YtopboabeigakoaaGreatDoorMFnStoreNeverx5
import Derived.Test.YtopboabeigakoaaGreatDoorMFnStoreNeverx6
import Derived.Test.YtopboabeigakoaaGreatDoorMFnStoreNeverx7
namespace Go.Proofs.YtopboabeigakoaaGreatDoor.MFnStoreNever
open Go.RowKit Go.Proofs.YtopboabeigakoaaGreatDoorW.PrintWords Go.Proofs.YtopboabeigakoaaGreatDoorW.PrintLast Go.Proofs.YtopboabeigakoaaGreatDoorW.PrintMore
attribute [local go_sem] max2_int min2_int max_two min_two max_three min_three max_four min_four   -- for this text's walks alone
set_option linter.unusedVariables false
set_option linter.unusedSimpArgs false
set_option maxHeartbeats 8000000
set_option maxRecDepth 100000
def impl_doAll.l0:Nat→Int→List (S43)→Int→Int→List Int→Int→List Int→List (S35)→Option (List Int×Int×List Int×(List (S35))×Int)
 |0,_,_,_,_,_,_,_,_=>none
 |k+1,x6,x13,x14,x15,aO,aP,aQ,aR=>if x15<x14 then (if 0≤x15 then (if x15<(x13.length:Int) then ((impl_DeskDo.f k aO aP aQ aR ((rd_T43 x13 x15).f0) ((rd_T43 x13 x15).f1) ((rd_T43 x13 x15).f2)).bind fun a8=>(if a8.2.2.2.2=true then (impl_doAll.l0 k (wrap64 (x6+1)) x13 x14 (wrap64 (x15+1)) a8.1 a8.2.1 a8.2.2.1 a8.2.2.2.1) else (impl_doAll.l0 k x6 x13 x14 (wrap64 (x15+1)) aO aP aQ aR))) else (none)) else (none)) else (some (aO,aP,aQ,aR,x6))
def impl_doAll.f (k:Nat) (ab:List Int) (a0_1:Int) (ac:List Int) (ad:List (S35)) (l1:List (S43)):Option (List Int×Int×List Int×(List (S35))×Int):=(impl_copyDesk.f k ab a0_1 ac ad).bind fun bm=>(impl_doAll.l0 k 0 l1 (l1.length:Int) 0 bm.1 bm.2.1 bm.2.2.1 bm.2.2.2)
theorem impl_doAll.z0 {P_:Prop} (h_:P_:=by go_wp2_with (first|((with_reducible refine gate_dst (N:=17) rfl ?_);obtain ⟨p_,q_,ad_,e_,x0,x1,x2⟩:=a2_ (at_T43 (gC_ st k43 A1 l1) ap);have ix_:=ix3_ Tryz.underlying30 e_ p_ q_ (c:=c1);clear e_;go_step)|((with_reducible refine gate_dst (N:=8) rfl ?_);refine al_ st ?_;clear st cl;intro g8 w_ st;have cl:=cl_ st)|((with_reducible refine gate_store (p:=8) rfl ?_);refine so3_ st ?_;clear st cl;intro w_ st;have cl:=cl_ st)|((with_reducible refine gate_callee (f:=27) rfl ?_);refine ca_ (some 22) Tryz.func27 _ (impl_DeskDo.calls k1 ah ai _ _ aj ak _ al am _ _ _ _ _ _ _ _ _ _ (gt_ st) (gt_ st) (gt_ st) (gt_ st) (gt_ st) (gt_ st) (GWb.below HG.out st.b) A_22.out) ?_;rintro e w_ ⟨v0,v1,v2,rfl,h0,h1,h2,hb⟩;refine ⟨_,rfl,?_⟩;obtain ⟨B22_0,d22_0,rfl⟩:=Kd.R_slice h0;obtain ⟨B22_2,d22_2,rfl⟩:=Kd.R_slice h1;obtain ⟨B22_3,d22_3,rfl⟩:=Kd.V_slice h2;replace st:=st.p3 hb (st.mr h0) (st.mr h1) (st.mv h2);clear cl hb h0 h1 h2;have cl:=cl_ st)|((with_reducible refine gate_dst (N:=9) rfl ?_);refine al_ st ?_;clear st cl;intro g9 w_ st;have cl:=cl_ st)|((with_reducible refine gate_store (p:=9) rfl ?_);refine so4_ st ?_;clear st cl;intro w_ st;have cl:=cl_ st)|((with_reducible refine gate_store (p:=2) rfl ?_);refine so4_ st ?_;clear st cl;intro w_ st;have cl:=cl_ st)|((with_reducible refine gate_store (p:=4) rfl ?_);refine so4_ st ?_;clear st cl;intro w_ st;have cl:=cl_ st));first|(go_roundg k1;(case measure=>have:=HK1.out;omega);(case rel=>exact ⟨(wrap64 (bq+1)),(wrap64 (ap+1)),(bM),(bN),(bO),(bP),B22_0,d22_0,B22_2,d22_2,B22_3,d22_3,tx_,tx_,H',⟨by have:=HK1.out;omega⟩,st.en⟩))|(go_roundg k1;(case measure=>have:=HK1.out;omega);(case rel=>exact ⟨(bq),(wrap64 (ap+1)),(ae),(aC),(af),(ag),ah,ai,aj,ak,al,am,tx_,tx_,H',⟨by have:=HK1.out;omega⟩,st.en⟩))|(refine bodyPost_ret (rct_ st Tryz.underlying38) rfl ?_;exact ⟨.slice ah ae.length ai,.slice aj af.length ak,.slice al ag.length am,tw_,gt_ st,gt_ st,gt_ st,st.b⟩)):P_:=h_
theorem impl_doAll.calls (k:Nat) (aD:Option Addr) (aE:Nat) (ab:List Int) (a0_1:Int) (aF:Option Addr) (aG:Nat) (ac:List Int) (aI:Option Addr) (aJ:Nat) (ad:List (S35)) (A1:Option Addr) (c1:Nat) (l1:List (S43)) (r1:List Int) (r2:Int) (r3:List Int) (r4:List (S35)) (r5:Int) (w:World) (hr0_0:Kd.C (Kd.int .i64) w aD ab.length ab) (hc0_0:ab.length≤aE) (hr0_2:Kd.C (Kd.int .i64) w aF ac.length ac) (hc0_2:ac.length≤aG) (hr0_3:Kd.C k35 w aI ad.length ad) (hc0_3:ad.length≤aJ) (hr1:Kd.C k43 w A1 l1.length l1) (hc1:l1.length≤c1) (hG:GWb w) (h:impl_doAll.f k ab a0_1 ac ad l1=some (r1,r2,r3,r4,r5)) :
  Calls Tryz.prog 72 #[.agg #[.slice aD ab.length aE,.int .i64 a0_1,.slice aF ac.length aG,.slice aI ad.length aJ],.slice A1 l1.length c1] w fun e w'=>∃v0_ v2_ v3_:Value,e=.returned (.tuple #[.agg #[v0_,.int .i64 r2,v2_,v3_],.int .i64 r5])∧Kd.R (Kd.int .i64) 3 w' w.heap.size (fun k_=>(w.heap.size≤k_)) v0_ r1∧Kd.R (Kd.int .i64) 3 w' w.heap.size (fun k_=>(w.heap.size≤k_)) v2_ r3∧Kd.V k35 35 w' w.heap.size (fun k_=>(w.heap.size≤k_)) v3_ r4∧Below w.heap.size w w':=by
 have HG:=A_ hG;clear hG;have hu38:=Tryz.underlying38;have hu43:=Tryz.underlying43;have st:=((((ST.nil w).c hr0_0 hc0_0).c hr0_2 hc0_2).c hr0_3 hc0_3).c hr1 hc1;have s0:=st;have cl:=cl_ st;have H:=h;clear h;unfold impl_doAll.f at H;go_enter Tryz.func72,Tryz.ntmps72;obtain ⟨⟨bQ,bR,bS,bU⟩,A_12,H⟩:=bnd_ H;(try dsimp only at H);have H':=A_ H;clear H;go_wp2_with (first|((with_reducible refine gate_dst (N:=2) rfl ?_);refine al_ st ?_;clear st cl;intro g2 w_ st;have cl:=cl_ st)|((with_reducible refine gate_dst (N:=4) rfl ?_);refine al_ st ?_;clear st cl;intro g4 w_ st;have cl:=cl_ st)|((with_reducible refine gate_callee (f:=62) rfl ?_);refine ca_ (some 12) Tryz.func62 _ (impl_copyDesk.calls k aD aE _ _ aF aG _ aI aJ _ _ _ _ _ _ (gt_ st) (gt_ st) (gt_ st) (gt_ st) (gt_ st) (gt_ st) A_12.out) ?_;rintro e w_ ⟨v0,v1,v2,rfl,h0,h1,h2,hb⟩;refine ⟨_,rfl,?_⟩;obtain ⟨B12_0,d12_0,rfl⟩:=Kd.R_slice h0;obtain ⟨B12_2,d12_2,rfl⟩:=Kd.R_slice h1;obtain ⟨B12_3,d12_3,rfl⟩:=Kd.S_slice h2;replace st:=st.p3 hb (st.mr h0) (st.mr h1) (st.ms h2);clear cl hb h0 h1 h2;have cl:=cl_ st)|((with_reducible refine gate_store (p:=2) rfl ?_);refine so4_ st ?_;clear st cl;intro w_ st;have cl:=cl_ st))
 go_loopg [6,15] k (fun kq v6 b5 w'=>∃(bq:Int) (ap:Int) (ae:List Int) (aC:Int) (af:List Int) (ag:List (S35)) (ah:Option Addr) (ai:Nat) (aj:Option Addr) (ak:Nat) (al:Option Addr) (am:Nat),v6=.int .i64 bq∧b5=.int .i64 ap∧Aside0 (impl_doAll.l0 kq bq l1 (l1.length:Int) ap ae aC af ag=some (r1,r2,r3,r4,r5))∧Aside0 (kq≤k)∧ST w [CA k43 w A1 l1 c1,AR (Kd.int .i64) 3 w.heap.size (.slice ah ae.length ai) ae,AR (Kd.int .i64) 3 w.heap.size (.slice aj af.length ak) af,AV k35 35 w.heap.size (.slice al ag.length am) ag] [Bx g2 #[.slice ah ae.length ai,.int .i64 aC,.slice aj af.length ak,.slice al ag.length am] 38,Bx g4 #[.slice none 0 0,.int .i64 0,.slice none 0 0,.slice none 0 0] 38] w')
 case atStart=>exact ⟨(0),(0),(bQ),(bR),(bS),(bU),B12_0,d12_0,B12_2,d12_2,B12_3,d12_3,tx_,tx_,H',⟨Nat.le_refl _⟩,st.en⟩
 case round =>
  clear H' st cl;obtain ⟨bq,ap,ae,aC,af,ag,ah,ai,aj,ak,al,am,rfl,rfl,HA,HK1,st⟩:=hrel;have cl:=cl_ st
  cases gk with
  |zero=>exact absurd HA.out (by simp [impl_doAll.l0])
  |succ k1 =>
   have H:=HA.out;clear HA;simp only [impl_doAll.l0] at H;replace H:=it_ H;rcases H with ⟨bc,H⟩|⟨bc,H⟩
   ·
    replace H:=in_ H;obtain ⟨bH,H⟩:=H;replace H:=in_ H;obtain ⟨bs,H⟩:=H;obtain ⟨⟨bM,bN,bO,bP,bV⟩,A_22,H⟩:=bnd_ H;(try dsimp only at H);rcases bx_ bV with rfl|rfl
    ·
     replace H:=bt_ H;have H':=A_ H;clear H;exact impl_doAll.z0
    ·
     replace H:=bf_ H;have H':=A_ H;clear H;exact impl_doAll.z0
   ·
    obtain ⟨rfl,rfl,rfl,rfl,rfl⟩:=sj5_ H;exact impl_doAll.z0
def impl_opened.f (k:Nat) (a0_0:ByteArray) (a0_1:ByteArray) (a0_2:Int):Option (List Int×Int×List Int×(List (S35))):=(impl_ReadPlace.f k a0_0).bind fun br=>((impl_ReadJournal.f k a0_1).bind fun bI=>((impl_doAll.f k br.1 br.2.1 br.2.2.1 ([]:List (S35)) bI.1).bind fun bn=>(some (bn.1,bn.2.1,bn.2.2.1,bn.2.2.2.1))))
theorem impl_opened.calls (k:Nat) (a0_0:ByteArray) (a0_1:ByteArray) (a0_2:Int) (r1:List Int) (r2:Int) (r3:List Int) (r4:List (S35)) (w:World) (hG:GWb w) (h:impl_opened.f k a0_0 a0_1 a0_2=some (r1,r2,r3,r4)) :
  Calls Tryz.prog 54 #[.agg #[.string a0_0,.string a0_1,.int .i64 a0_2]] w fun e w'=>∃v0_ v2_ v3_:Value,e=.returned (.agg #[v0_,.int .i64 r2,v2_,v3_])∧Kd.R (Kd.int .i64) 3 w' w.heap.size (fun k_=>(w.heap.size≤k_)) v0_ r1∧Kd.R (Kd.int .i64) 3 w' w.heap.size (fun k_=>(w.heap.size≤k_)) v2_ r3∧Kd.V k35 35 w' w.heap.size (fun k_=>(w.heap.size≤k_)) v3_ r4∧Below w.heap.size w w':=by
 have HG:=A_ hG;clear hG;have hu24:=Tryz.underlying24;have hu38:=Tryz.underlying38;have hu35:=Tryz.underlying35;have st:=ST.nil w;have s0:=st;have cl:=cl_ st;have H:=h;clear h;unfold impl_opened.f at H;go_enter Tryz.func54,Tryz.ntmps54;obtain ⟨⟨b6,b7,b8,b9⟩,A_12,H⟩:=bnd_ H;(try dsimp only at H);obtain ⟨⟨ca,cb⟩,A_18,H⟩:=bnd_ H;(try dsimp only at H);obtain ⟨⟨bW,cc,bX,bZ,cd⟩,A_25,H⟩:=bnd_ H;(try dsimp only at H);obtain ⟨rfl,rfl,rfl,rfl⟩:=sj4_ H;go_wp2_with (first|((with_reducible refine gate_dst (N:=1) rfl ?_);refine al_ st ?_;clear st cl;intro g1 w_ st;have cl:=cl_ st)|((with_reducible refine gate_dst (N:=2) rfl ?_);refine al_ st ?_;clear st cl;intro g2 w_ st;have cl:=cl_ st)|((with_reducible refine gate_callee (f:=35) rfl ?_);refine ca_ (some 12) Tryz.func35 _ (impl_ReadPlace.calls k _ _ _ _ _ _ (GWb.below HG.out st.b) A_12.out) ?_;rintro e w_ ⟨v0,v1,rfl,h0,h1,hb⟩;refine ⟨_,rfl,?_⟩;obtain ⟨B12_0,d12_0,rfl⟩:=Kd.R_slice h0;obtain ⟨B12_2,d12_2,rfl⟩:=Kd.R_slice h1;replace st:=st.p2 hb (st.mr h0) (st.mr h1);clear cl hb h0 h1;have cl:=cl_ st)|((with_reducible refine gate_dst (N:=3) rfl ?_);refine al_ st ?_;clear st cl;intro g3 w_ st;have cl:=cl_ st)|((with_reducible refine gate_store (p:=3) rfl ?_);refine so3_ st ?_;clear st cl;intro w_ st;have cl:=cl_ st)|((with_reducible refine gate_callee (f:=17) rfl ?_);refine ca_ (some 18) Tryz.func17 _ (impl_ReadJournal.calls k _ _ _ _ (GWb.below HG.out st.b) A_18.out) ?_;rintro e w_ ⟨v0,rfl,h0,hb⟩;refine ⟨_,rfl,?_⟩;obtain ⟨B18_0,d18_0,rfl⟩:=Kd.R_slice h0;replace st:=st.p1 hb (st.mr h0);clear cl hb h0;have cl:=cl_ st)|((with_reducible refine gate_callee (f:=72) rfl ?_);refine ca_ (some 25) Tryz.func72 _ (impl_doAll.calls k B12_0 d12_0 _ _ B12_2 d12_2 _ none 0 _ B18_0 d18_0 _ _ _ _ _ _ _ (gt_ st) (gt_ st) (gt_ st) (gt_ st) (Kd.C_nil _ _) (Nat.le_refl 0) (gt_ st) (gt_ st) (GWb.below HG.out st.b) A_25.out) ?_;rintro e w_ ⟨v0,v1,v2,rfl,h0,h1,h2,hb⟩;refine ⟨_,rfl,?_⟩;obtain ⟨B25_0,d25_0,rfl⟩:=Kd.R_slice h0;obtain ⟨B25_2,d25_2,rfl⟩:=Kd.R_slice h1;obtain ⟨B25_3,d25_3,rfl⟩:=Kd.V_slice h2;replace st:=st.p3 hb (st.mr h0) (st.mr h1) (st.mv h2);clear cl hb h0 h1 h2;have cl:=cl_ st)|((with_reducible refine gate_dst (N:=7) rfl ?_);refine al_ st ?_;clear st cl;intro g7 w_ st;have cl:=cl_ st)|((with_reducible refine gate_store (p:=7) rfl ?_);refine so4_ st ?_;clear st cl;intro w_ st;have cl:=cl_ st)|((with_reducible refine gate_store (p:=2) rfl ?_);refine so4_ st ?_;clear st cl;intro w_ st;have cl:=cl_ st));refine bodyPost_ret (rcc_ st Tryz.underlying38) rfl ?_;exact ⟨.slice B25_0 bW.length d25_0,.slice B25_2 bX.length d25_2,.slice B25_3 bZ.length d25_3,tw_,gt_ st,gt_ st,gt_ st,st.b⟩
def impl_StoreOpen.f (k:Nat) (a0_0:ByteArray) (a0_1:ByteArray) (a0_2:Int):Option (List Int×Int×List Int×(List (S35))×Bool):=(impl_StoreOk.f k a0_0 a0_1 a0_2).bind fun bz=>(if bz=true then ((impl_opened.f k a0_0 a0_1 a0_2).bind fun bo=>(some (bo.1,bo.2.1,bo.2.2.1,bo.2.2.2,true))) else (some (([]:List Int),0,([]:List Int),([]:List (S35)),false)))
theorem impl_StoreOpen.z0 {P_:Prop} (h_:P_:=by go_wp2_with (first|((with_reducible refine gate_dst (N:=1) rfl ?_);refine al_ st ?_;clear st cl;intro g1 w_ st;have cl:=cl_ st)|((with_reducible refine gate_dst (N:=2) rfl ?_);refine al_ st ?_;clear st cl;intro g2 w_ st;have cl:=cl_ st)|((with_reducible refine gate_callee (f:=15) rfl ?_);refine ca_ (some 5) Tryz.func15 _ (impl_StoreOk.calls k _ _ _ _ _ (GWb.below HG.out st.b) A_5.out) ?_;rintro e w_ ⟨rfl,hb⟩;refine ⟨_,rfl,?_⟩;replace st:=st.ev hb;clear cl hb;have cl:=cl_ st)|((with_reducible refine gate_callee (f:=54) rfl ?_);refine ca_ (some 9) Tryz.func54 _ (impl_opened.calls k _ _ _ _ _ _ _ _ (GWb.below HG.out st.b) A_9.out) ?_;rintro e w_ ⟨v0,v1,v2,rfl,h0,h1,h2,hb⟩;refine ⟨_,rfl,?_⟩;obtain ⟨B9_0,d9_0,rfl⟩:=Kd.R_slice h0;obtain ⟨B9_2,d9_2,rfl⟩:=Kd.R_slice h1;obtain ⟨B9_3,d9_3,rfl⟩:=Kd.V_slice h2;replace st:=st.p3 hb (st.mr h0) (st.mr h1) (st.mv h2);clear cl hb h0 h1 h2;have cl:=cl_ st)|((with_reducible refine gate_store (p:=2) rfl ?_);refine so4_ st ?_;clear st cl;intro w_ st;have cl:=cl_ st));first|(refine bodyPost_ret (rct_ st Tryz.underlying38) rfl ?_;exact ⟨.slice B9_0 b0.length d9_0,.slice B9_2 b1.length d9_2,.slice B9_3 b2.length d9_3,tw_,gt_ st,gt_ st,gt_ st,st.b⟩)|(refine bodyPost_ret (rct_ st Tryz.underlying38) rfl ?_;exact ⟨.slice none 0 0,.slice none 0 0,.slice none 0 0,tw_,kn_,kn_,kn_,st.b⟩)):P_:=h_
theorem impl_StoreOpen.calls (k:Nat) (a0_0:ByteArray) (a0_1:ByteArray) (a0_2:Int) (r1:List Int) (r2:Int) (r3:List Int) (r4:List (S35)) (r5:Bool) (w:World) (hG:GWb w) (h:impl_StoreOpen.f k a0_0 a0_1 a0_2=some (r1,r2,r3,r4,r5)) :
  Calls Tryz.prog 18 #[.agg #[.string a0_0,.string a0_1,.int .i64 a0_2]] w fun e w'=>∃v0_ v2_ v3_:Value,e=.returned (.tuple #[.agg #[v0_,.int .i64 r2,v2_,v3_],.bool r5])∧Kd.R (Kd.int .i64) 3 w' w.heap.size (fun k_=>(w.heap.size≤k_)) v0_ r1∧Kd.R (Kd.int .i64) 3 w' w.heap.size (fun k_=>(w.heap.size≤k_)) v2_ r3∧Kd.V k35 35 w' w.heap.size (fun k_=>(w.heap.size≤k_)) v3_ r4∧Below w.heap.size w w':=by
 have HG:=A_ hG;clear hG;have hu24:=Tryz.underlying24;have hu38:=Tryz.underlying38;have st:=ST.nil w;have s0:=st;have cl:=cl_ st;have H:=h;clear h;unfold impl_StoreOpen.f at H;go_enter Tryz.func18,Tryz.ntmps18;obtain ⟨bz,A_5,H⟩:=bnd_ H;rcases bx_ bz with rfl|rfl
 ·
  replace H:=bt_ H;obtain ⟨⟨b0,ce,b1,b2⟩,A_9,H⟩:=bnd_ H;(try dsimp only at H);obtain ⟨rfl,rfl,rfl,rfl,rfl⟩:=sj5_ H;exact impl_StoreOpen.z0
 ·
  replace H:=bf_ H;obtain ⟨rfl,rfl,rfl,rfl,rfl⟩:=sj5_ H;exact impl_StoreOpen.z0
def impl_StoreCrash.f (k:Nat) (a0_0:ByteArray) (a0_1:ByteArray) (a0_2:Int) (a1:Int):Option (ByteArray×ByteArray×Int×Bool):=(impl_StoreOk.f k a0_0 a0_1 a0_2).bind fun bB=>(if bB=true then (if a1<a0_2 then (some ((⟨#[]⟩:ByteArray),(⟨#[]⟩:ByteArray),0,false)) else (if a1>(a0_1.size:Int) then (some ((⟨#[]⟩:ByteArray),(⟨#[]⟩:ByteArray),0,false)) else (if 0≤a1 then (if a1≤(a0_1.size:Int) then (some (a0_0,a0_1.extract 0 (a1:Int).toNat,a0_2,true)) else (none)) else (none)))) else (some ((⟨#[]⟩:ByteArray),(⟨#[]⟩:ByteArray),0,false)))
theorem impl_StoreCrash.z0 {P_:Prop} (h_:P_:=by go_wp2_with (first|((with_reducible refine gate_dst (N:=2) rfl ?_);refine al_ st ?_;clear st cl;intro g2 w_ st;have cl:=cl_ st)|((with_reducible refine gate_dst (N:=4) rfl ?_);refine al_ st ?_;clear st cl;intro g4 w_ st;have cl:=cl_ st)|((with_reducible refine gate_callee (f:=15) rfl ?_);refine ca_ (some 7) Tryz.func15 _ (impl_StoreOk.calls k _ _ _ _ _ (GWb.below HG.out st.b) A_7.out) ?_;rintro e w_ ⟨rfl,hb⟩;refine ⟨_,rfl,?_⟩;replace st:=st.ev hb;clear cl hb;have cl:=cl_ st)|((with_reducible refine gate_store (p:=4) rfl ?_);refine so3_ st ?_;clear st cl;intro w_ st;have cl:=cl_ st)|((with_reducible refine gate_store (p:=27) rfl ?_);refine so1_ st ?_;clear st cl;intro w_ st;have cl:=cl_ st));(refine bodyPost_ret (rct_ st Tryz.underlying24) rfl ?_;exact ⟨tw_,st.b⟩)):P_:=h_
theorem impl_StoreCrash.calls (k:Nat) (a0_0:ByteArray) (a0_1:ByteArray) (a0_2:Int) (a1:Int) (r1:ByteArray) (r2:ByteArray) (r3:Int) (r4:Bool) (w:World) (hG:GWb w) (h:impl_StoreCrash.f k a0_0 a0_1 a0_2 a1=some (r1,r2,r3,r4)) :
  Calls Tryz.prog 23 #[.agg #[.string a0_0,.string a0_1,.int .i64 a0_2],.int .i64 a1] w fun e w'=>e=.returned (.tuple #[.agg #[.string r1,.string r2,.int .i64 r3],.bool r4])∧Below w.heap.size w w':=by
 have HG:=A_ hG;clear hG;have hu24:=Tryz.underlying24;have st:=ST.nil w;have s0:=st;have cl:=cl_ st;have H:=h;clear h;unfold impl_StoreCrash.f at H;go_enter Tryz.func23,Tryz.ntmps23;obtain ⟨bB,A_7,H⟩:=bnd_ H;rcases bx_ bB with rfl|rfl
 ·
  replace H:=bt_ H;replace H:=it_ H;rcases H with ⟨bd,H⟩|⟨bd,H⟩
  ·
   obtain ⟨rfl,rfl,rfl,rfl⟩:=sj4_ H;exact impl_StoreCrash.z0
  ·
   replace H:=ig_ H;rcases H with ⟨bc,H⟩|⟨bc,H⟩
   ·
    obtain ⟨rfl,rfl,rfl,rfl⟩:=sj4_ H;exact impl_StoreCrash.z0
   ·
    replace H:=i0_ H;obtain ⟨c5,H⟩:=H;have bH:=eq_true c5;have cf:decide (0≤a1)=true:=decide_eq_true c5;clear c5;replace H:=i0_ H;obtain ⟨c6,H⟩:=H;have bs:=eq_true c6;have cg:decide (a1≤(a0_1.size:Int))=true:=decide_eq_true c6;clear c6;obtain ⟨rfl,rfl,rfl,rfl⟩:=sj4_ H;exact impl_StoreCrash.z0
 ·
  replace H:=bf_ H;obtain ⟨rfl,rfl,rfl,rfl⟩:=sj4_ H;exact impl_StoreCrash.z0
def laws_sameInts.l0:Nat→List Int→List Int→Int→Option (Bool)
 |0,_,_,_=>none
 |k+1,x0,x1,x5=>if x5<(x0.length:Int) then (if 0≤x5 then (if x5<(x1.length:Int) then (if (rd x0 x5)=(rd x1 x5) then (laws_sameInts.l0 k x0 x1 (wrap64 (x5+1))) else (some false)) else (none)) else (none)) else (some true)
def laws_sameInts.f (k:Nat) (l0:List Int) (l1:List Int):Option (Bool):=if (l0.length:Int)=(l1.length:Int) then (laws_sameInts.l0 k l0 l1 0) else (some false)
theorem laws_sameInts.calls (k:Nat) (A0:Option Addr) (c0:Nat) (l0:List Int) (A1:Option Addr) (c1:Nat) (l1:List Int) (r:Bool) (w:World) (hr0:Kd.C (Kd.int .i64) w A0 l0.length l0) (hc0:l0.length≤c0) (hr1:Kd.C (Kd.int .i64) w A1 l1.length l1) (hc1:l1.length≤c1) (h:laws_sameInts.f k l0 l1=some r) :
  Calls Tryz.prog 58 #[.slice A0 l0.length c0,.slice A1 l1.length c1] w fun e w'=>e=.returned (.bool r)∧Drawn0 w w':=by
 have HR0:=A_ hr0;have HC0:=A_ hc0;clear hr0 hc0;have HR1:=A_ hr1;have HC1:=A_ hc1;clear hr1 hc1;have H:(if (l0.length:Int)=(l1.length:Int) then (laws_sameInts.l0 k l0 l1 0) else (some false))=some r:=h;clear h;by_cases c3:(l0.length:Int)=(l1.length:Int)
 ·
  rw [if_pos c3] at H;have bd:((l0.length:Int) == (l1.length:Int))=true:=beq_iff_eq.mpr c3;have bu:((l0.length:Int) != (l1.length:Int))=false:=bne_eq_false_iff_eq.mpr c3;have bJ:(l0.length == l1.length)=true:=by first|simpa using c3|(simp at c3 ⊢;omega)
  clear c3;have H':=A_ H;clear H;go_enter Tryz.func58,Tryz.ntmps58;go_wp2;repeat (go_quiet (fail);try go_wp2)
  go_loopg [5] k (fun kq v5 w'=>∃(aa:Int),v5=.int .i64 aa∧Aside0 (laws_sameInts.l0 kq l0 l1 aa=some r)∧Aside0 (kq≤k)∧Drawn0 w w')
  case atStart=>exact ⟨(0),tx_,H',⟨Nat.le_refl _⟩,dz_⟩
  case round =>
   clear H';(try clear c3);(try clear bd);(try clear bu);(try clear bJ);obtain ⟨aa,rfl,HA,HK1,⟨m1,rfl⟩⟩:=hrel
   cases gk with
   |zero=>exact absurd HA.out (by simp [laws_sameInts.l0])
   |succ k1 =>
    have H:=HA.out;clear HA;simp only [laws_sameInts.l0] at H;replace H:=it_ H;rcases H with ⟨bc,H⟩|⟨bc,H⟩
    ·
     replace H:=in_ H;obtain ⟨bH,H⟩:=H;replace H:=in_ H;obtain ⟨bs,H⟩:=H;by_cases c7:(rd l0 aa)=(rd l1 aa)
     ·
      rw [if_pos c7] at H;have bK:((rd l0 aa) == (rd l1 aa))=true:=beq_iff_eq.mpr c7;have b3:((rd l0 aa) != (rd l1 aa))=false:=bne_eq_false_iff_eq.mpr c7;clear c7;have H':=A_ H;clear H;obtain ⟨p447,q447,ad447,e447,bv⟩:=a2_ (Kd.at_int HR0.out aa);cases e447;obtain ⟨p448,q448,ad448,e448,bw⟩:=a2_ (Kd.at_int HR1.out aa);cases e448;go_wp2;repeat (go_quiet (fail);try go_wp2)
      go_roundg k1
      case measure=>have:=HK1.out;omega
      case rel=>exact ⟨(wrap64 (aa+1)),tx_,H',⟨by have:=HK1.out;omega⟩,dz_⟩
     ·
      rw [if_neg c7] at H;have bK:((rd l0 aa) == (rd l1 aa))=false:=beq_eq_false_iff_ne.mpr c7;have b3:((rd l0 aa) != (rd l1 aa))=true:=bne_iff_ne.mpr c7;obtain rfl:=Option.some.inj H;obtain ⟨p447,q447,ad447,e447,bv⟩:=a2_ (Kd.at_int HR0.out aa);cases e447;obtain ⟨p448,q448,ad448,e448,bw⟩:=a2_ (Kd.at_int HR1.out aa);cases e448;go_wp2;repeat (go_quiet (fail);try go_wp2)
      go_ret;exact ⟨tx_,dz_⟩
    ·
     obtain rfl:=Option.some.inj H;go_wp2;repeat (go_quiet (fail);try go_wp2)
     go_ret;exact ⟨tx_,dz_⟩
 ·
  rw [if_neg c3] at H;have bd:((l0.length:Int) == (l1.length:Int))=false:=beq_eq_false_iff_ne.mpr c3;have bu:((l0.length:Int) != (l1.length:Int))=true:=bne_iff_ne.mpr c3;have bJ:(l0.length == l1.length)=false:=by first|simpa using c3|(simp at c3 ⊢;omega)
  obtain rfl:=Option.some.inj H;go_enter Tryz.func58,Tryz.ntmps58;go_wp2;repeat (go_quiet (fail);try go_wp2)
  go_ret;exact ⟨tx_,dz_⟩
def laws_samePlace.f (k:Nat) (ab:List Int) (a0_1:Int) (ac:List Int) (an:List Int) (a1_1:Int) (ao:List Int):Option (Bool):=(laws_sameInts.f k ab an).bind fun bC=>(if bC=true then (if a0_1=a1_1 then ((laws_sameInts.f k ac ao).bind fun bL=>(some bL)) else (some false)) else (some false))
theorem laws_samePlace.z0 {P_:Prop} (h_:P_:=by go_wp2_with (first|((with_reducible refine gate_dst (N:=2) rfl ?_);refine al_ st ?_;clear st cl;intro g2 w_ st;have cl:=cl_ st)|((with_reducible refine gate_dst (N:=3) rfl ?_);refine al_ st ?_;clear st cl;intro g3 w_ st;have cl:=cl_ st)|((with_reducible refine gate_callee (f:=58) rfl ?_);refine ca_ (some 9) Tryz.func58 _ (laws_sameInts.calls k aD aE _ aK aL _ _ _ (gt_ st) (gt_ st) (gt_ st) (gt_ st) A_9.out) ?_;rintro e w_ ⟨rfl,hb⟩;refine ⟨_,rfl,?_⟩;replace hb:=hb.below;replace st:=st.ev hb;clear cl hb;have cl:=cl_ st)|((with_reducible refine gate_callee (f:=58) rfl ?_);refine gate_guard (by rfl) ?_;dsimp only;refine ca_ (some 22) Tryz.func58 _ (laws_sameInts.calls k aF aG _ aM aN _ _ _ (gt_ st) (gt_ st) (gt_ st) (gt_ st) A_22.out) ?_;rintro e w_ ⟨rfl,hb⟩;refine ⟨_,rfl,?_⟩;replace hb:=hb.below;replace st:=st.ev hb;clear cl hb;have cl:=cl_ st));(go_ret;exact ⟨tw_,st.b⟩)):P_:=h_
theorem laws_samePlace.calls (k:Nat) (aD:Option Addr) (aE:Nat) (ab:List Int) (a0_1:Int) (aF:Option Addr) (aG:Nat) (ac:List Int) (aK:Option Addr) (aL:Nat) (an:List Int) (a1_1:Int) (aM:Option Addr) (aN:Nat) (ao:List Int) (r:Bool) (w:World) (hr0_0:Kd.C (Kd.int .i64) w aD ab.length ab) (hc0_0:ab.length≤aE) (hr0_2:Kd.C (Kd.int .i64) w aF ac.length ac) (hc0_2:ac.length≤aG) (hr1_0:Kd.C (Kd.int .i64) w aK an.length an) (hc1_0:an.length≤aL) (hr1_2:Kd.C (Kd.int .i64) w aM ao.length ao) (hc1_2:ao.length≤aN) (h:laws_samePlace.f k ab a0_1 ac an a1_1 ao=some r) :
  Calls Tryz.prog 24 #[.agg #[.slice aD ab.length aE,.int .i64 a0_1,.slice aF ac.length aG],.agg #[.slice aK an.length aL,.int .i64 a1_1,.slice aM ao.length aN]] w fun e w'=>e=.returned (.bool r)∧Below w.heap.size w w':=by
 have hu35:=Tryz.underlying35;have st:=((((ST.nil w).c hr0_0 hc0_0).c hr0_2 hc0_2).c hr1_0 hc1_0).c hr1_2 hc1_2;have s0:=st;have cl:=cl_ st;have H:=h;clear h;unfold laws_samePlace.f at H;go_enter Tryz.func24,Tryz.ntmps24;obtain ⟨bC,A_9,H⟩:=bnd_ H;rcases bx_ bC with rfl|rfl
 ·
  replace H:=bt_ H;by_cases c3:a0_1=a1_1
  ·
   rw [if_pos c3] at H;have bd:(a0_1 == a1_1)=true:=beq_iff_eq.mpr c3;have bu:(a0_1 != a1_1)=false:=bne_eq_false_iff_eq.mpr c3;clear c3;obtain ⟨bL,A_22,H⟩:=bnd_ H;obtain rfl:=Option.some.inj H;exact laws_samePlace.z0
  ·
   rw [if_neg c3] at H;have bd:(a0_1 == a1_1)=false:=beq_eq_false_iff_ne.mpr c3;have bu:(a0_1 != a1_1)=true:=bne_iff_ne.mpr c3;obtain rfl:=Option.some.inj H;exact laws_samePlace.z0
 ·
  replace H:=bf_ H;obtain rfl:=Option.some.inj H;exact laws_samePlace.z0
mutual
def laws_sameDesk.j0:Nat→Bool→List Int→Int→List Int→List (S35)→List Int→Int→List Int→List (S35)→Option (Bool)
 |0,_,_,_,_,_,_,_,_,_=>none
 |k+1,x20,aU,aV,aW,au,aX,aY,aZ,av=>if x20=true then (some false) else (laws_sameDesk.l0 k 0 aU aV aW au aX aY aZ av)
def laws_sameDesk.l0:Nat→Int→List Int→Int→List Int→List (S35)→List Int→Int→List Int→List (S35)→Option (Bool)
 |0,_,_,_,_,_,_,_,_,_=>none
 |k+1,x5,aU,aV,aW,au,aX,aY,aZ,av=>if x5<(au.length:Int) then (if 0≤x5 then (if x5<(av.length:Int) then ((laws_samePlace.f k ((rd_T35 au x5).f0) ((rd_T35 au x5).f1) ((rd_T35 au x5).f2) ((rd_T35 av x5).f0) ((rd_T35 av x5).f1) ((rd_T35 av x5).f2)).bind fun bD=>(if bD=true then (laws_sameDesk.l0 k (wrap64 (x5+1)) aU aV aW au aX aY aZ av) else (some false))) else (none)) else (none)) else (some true)
end
def laws_sameDesk.f (k:Nat) (ab:List Int) (a0_1:Int) (ac:List Int) (ad:List (S35)) (an:List Int) (a1_1:Int) (ao:List Int) (aq:List (S35)):Option (Bool):=(laws_samePlace.f k ab a0_1 ac an a1_1 ao).bind fun bE=>(if bE=true then (laws_sameDesk.j0 k ((ad.length:Int) != (aq.length:Int)) ab a0_1 ac ad an a1_1 ao aq) else (laws_sameDesk.j0 k true ab a0_1 ac ad an a1_1 ao aq))
def laws_sameDesk.T6:Bool×List (List Nat×List Nat):=(true,[([],[]),([0],[0]),([],[]),([1,2],[1,2]),([3],[3]),([],[]),([5],[5]),([],[]),([6,7],[6,7]),([8],[8]),([4,9],[4,9]),([10],[10])])
def laws_sameDesk.B6:List Nat:=[0,1,0,7,15,0,32,0,224,480,1023,2047]
theorem laws_sameDesk.tab6:rtab .any (opsOf Tryz.f28 6)=laws_sameDesk.T6:=by kernel_rfl
theorem laws_sameDesk.bits6:waitsOk laws_sameDesk.T6.2 laws_sameDesk.B6=true:=by kernel_rfl
theorem laws_sameDesk.z0 {P_:Prop} (h_:P_:=by go_wp2_with (first|((with_reducible refine gate_callee (f:=24) rfl ?_);refine ca_ (some 10) Tryz.func24 _ (laws_samePlace.calls k aD aE _ _ aF aG _ aK aL _ _ aM aN _ _ _ (gt_ st) (gt_ st) (gt_ st) (gt_ st) (gt_ st) (gt_ st) (gt_ st) (gt_ st) A_10.out) ?_;rintro e w_ ⟨rfl,hb⟩;refine ⟨_,rfl,?_⟩;replace st:=st.ev hb;clear cl hb;have cl:=cl_ st));first|(go_meet;(case rel=>exact ⟨_,(((ad.length:Int) != (aq.length:Int))),tx_,H',⟨by first|omega|exact Nat.le_refl _⟩,st.en⟩))|(go_meet;(case rel=>exact ⟨_,(true),tx_,H',⟨by first|omega|exact Nat.le_refl _⟩,st.en⟩))):P_:=h_
theorem laws_sameDesk.calls (k:Nat) (aD:Option Addr) (aE:Nat) (ab:List Int) (a0_1:Int) (aF:Option Addr) (aG:Nat) (ac:List Int) (aI:Option Addr) (aJ:Nat) (ad:List (S35)) (aK:Option Addr) (aL:Nat) (an:List Int) (a1_1:Int) (aM:Option Addr) (aN:Nat) (ao:List Int) (a9:Option Addr) (bb:Nat) (aq:List (S35)) (r:Bool) (w:World) (hr0_0:Kd.C (Kd.int .i64) w aD ab.length ab) (hc0_0:ab.length≤aE) (hr0_2:Kd.C (Kd.int .i64) w aF ac.length ac) (hc0_2:ac.length≤aG) (hr0_3:Kd.C k35 w aI ad.length ad) (hc0_3:ad.length≤aJ) (hr1_0:Kd.C (Kd.int .i64) w aK an.length an) (hc1_0:an.length≤aL) (hr1_2:Kd.C (Kd.int .i64) w aM ao.length ao) (hc1_2:ao.length≤aN) (hr1_3:Kd.C k35 w a9 aq.length aq) (hc1_3:aq.length≤bb) (h:laws_sameDesk.f k ab a0_1 ac ad an a1_1 ao aq=some r) :
  Calls Tryz.prog 28 #[.agg #[.slice aD ab.length aE,.int .i64 a0_1,.slice aF ac.length aG,.slice aI ad.length aJ],.agg #[.slice aK an.length aL,.int .i64 a1_1,.slice aM ao.length aN,.slice a9 aq.length bb]] w fun e w'=>e=.returned (.bool r)∧Below w.heap.size w w':=by
 have hu38:=Tryz.underlying38;have hu35:=Tryz.underlying35;have st:=((((((ST.nil w).c hr0_0 hc0_0).c hr0_2 hc0_2).c hr0_3 hc0_3).c hr1_0 hc1_0).c hr1_2 hc1_2).c hr1_3 hc1_3;have s0:=st;have cl:=cl_ st;have H:=h;clear h;unfold laws_sameDesk.f at H;go_enter Tryz.func28,Tryz.ntmps28;have HC4:=A_ H;clear H
 go_upto_region 1 with (first|((with_reducible refine gate_dst (N:=2) rfl ?_);refine al_ st ?_;clear st cl;intro g2 w_ st;have cl:=cl_ st)|((with_reducible refine gate_dst (N:=3) rfl ?_);refine al_ st ?_;clear st cl;intro g3 w_ st;have cl:=cl_ st))
 (try simp only [Act.put,sa_,sb_,sc_])
 go_cut [20] (fun ch wc=>∃(kq:Nat) (bp:Bool),ch=.bool bp∧Aside0 (laws_sameDesk.j0 kq bp ab a0_1 ac ad an a1_1 ao aq=some r)∧Aside0 (kq≤k)∧ST w [CA (Kd.int .i64) w aD ab aE,CA (Kd.int .i64) w aF ac aG,CA k35 w aI ad aJ,CA (Kd.int .i64) w aK an aL,CA (Kd.int .i64) w aM ao aN,CA k35 w a9 aq bb] [Bx g2 #[.slice aD ab.length aE,.int .i64 a0_1,.slice aF ac.length aG,.slice aI ad.length aJ] 38,Bx g3 #[.slice aK an.length aL,.int .i64 a1_1,.slice aM ao.length aN,.slice a9 aq.length bb] 38] wc)
 case first =>
  have H:=HC4.out;clear HC4;obtain ⟨bE,A_10,H⟩:=bnd_ H;rcases bx_ bE with rfl|rfl
  ·
   replace H:=bt_ H;have H':=A_ H;clear H;exact laws_sameDesk.z0
  ·
   replace H:=bf_ H;have H':=A_ H;clear H;exact laws_sameDesk.z0
 case rest =>
  clear HC4 st cl;obtain ⟨kq,bp,rfl,HA,HJ3,st⟩:=hcut;have cl:=cl_ st
  cases kq with
  |zero=>exact absurd HA.out (by simp [laws_sameDesk.j0])
  |succ kj3 =>
   have H:=HA.out;clear HA;simp only [laws_sameDesk.j0] at H;rcases bx_ bp with rfl|rfl
   ·
    replace H:=bt_ H;obtain rfl:=Option.some.inj H;go_wp2;go_ret;exact ⟨tw_,st.b⟩
   ·
    replace H:=bf_ H;have H':=A_ H;clear H;go_wp2
    go_loopg [5] kj3 (fun kq v5 w'=>∃(aH:Int),v5=.int .i64 aH∧Aside0 (laws_sameDesk.l0 kq aH ab a0_1 ac ad an a1_1 ao aq=some r)∧Aside0 (kq≤kj3)∧ST w [CA (Kd.int .i64) w aD ab aE,CA (Kd.int .i64) w aF ac aG,CA k35 w aI ad aJ,CA (Kd.int .i64) w aK an aL,CA (Kd.int .i64) w aM ao aN,CA k35 w a9 aq bb] [Bx g2 #[.slice aD ab.length aE,.int .i64 a0_1,.slice aF ac.length aG,.slice aI ad.length aJ] 38,Bx g3 #[.slice aK an.length aL,.int .i64 a1_1,.slice aM ao.length aN,.slice a9 aq.length bb] 38] w')
    case atStart=>exact ⟨(0),tx_,H',⟨Nat.le_refl _⟩,st.en⟩
    case round =>
     clear H' st cl;obtain ⟨aH,rfl,HA,HK2,st⟩:=hrel;have cl:=cl_ st
     cases gk with
     |zero=>exact absurd HA.out (by simp [laws_sameDesk.l0])
     |succ k2 =>
      have H:=HA.out;clear HA;simp only [laws_sameDesk.l0] at H;replace H:=it_ H;rcases H with ⟨bs,H⟩|⟨bs,H⟩
      ·
       replace H:=in_ H;obtain ⟨bK,H⟩:=H;replace H:=in_ H;obtain ⟨ci,H⟩:=H;obtain ⟨bD,A_38,H⟩:=bnd_ H;rcases bx_ bD with rfl|rfl
       ·
        replace H:=bt_ H;have H':=A_ H;clear H;(try go_wp2);(all_goals ((try clear ix_);obtain ⟨p_,q_,ad_,be,bf,bg,bh,e_,aw,ax,ay,l0_,C0_,l2_,C2_⟩:=a2_ (at_T35 (gC_ s0 k35 aI ad) aH);replace st:=st.c C0_ l0_;replace st:=st.c C2_ l2_;have ix456:=ix3_ Tryz.underlying36 e_ p_ q_ (c:=aJ);clear e_;obtain ⟨p_,q_,ad_,bi,bj,bk,bl,e_,az,aA,aB,l0_,C0_,l2_,C2_⟩:=a2_ (at_T35 (gC_ s0 k35 a9 aq) aH);replace st:=st.c C0_ l0_;replace st:=st.c C2_ l2_;have ix457:=ix3_ Tryz.underlying36 e_ p_ q_ (c:=bb);clear e_;refine rg_ st [] ?_;clear st cl;intro w_ st hs;have cl:=cl_ st;refine with_tabW laws_sameDesk.tab6 laws_sameDesk.bits6 (fun HT_ HW_=>?_);refine pv_ 0 ?_;refine pv_ 2 ?_;refine pv_ 5 ?_;refine pv_ 7 ?_;refine tu_ 1 ?_ (hy:=by intro w' s_;have cl:=cl_ s_;have y456_0:=cb_ s_ aw;have y456_1:=cb_ s_ ax;have y456_2:=cb_ s_ ay;have y457_0:=cb_ s_ az;have y457_1:=cb_ s_ aA;have y457_2:=cb_ s_ aB;go_simp;first|with_reducible rfl|(rw [if_neg (by omega)];done));refine tu_ 6 ?_ (hy:=by intro w' s_;have cl:=cl_ s_;have y456_0:=cb_ s_ aw;have y456_1:=cb_ s_ ax;have y456_2:=cb_ s_ ay;have y457_0:=cb_ s_ az;have y457_1:=cb_ s_ aA;have y457_2:=cb_ s_ aB;go_simp;first|with_reducible rfl|(rw [if_neg (by omega)];done));refine pv_ 3 ?_;refine pv_ 8 ?_;refine tu_ 4 ?_ (hy:=by intro w' s_;have cl:=cl_ s_;have y456_0:=cb_ s_ aw;have y456_1:=cb_ s_ ax;have y456_2:=cb_ s_ ay;have y457_0:=cb_ s_ az;have y457_1:=cb_ s_ aA;have y457_2:=cb_ s_ aB;go_simp;first|with_reducible rfl|(rw [if_neg (by omega)];done));refine tu_ 9 ?_ (hy:=by intro w' s_;have cl:=cl_ s_;have y456_0:=cb_ s_ aw;have y456_1:=cb_ s_ ax;have y456_2:=cb_ s_ ay;have y457_0:=cb_ s_ az;have y457_1:=cb_ s_ aA;have y457_2:=cb_ s_ aB;go_simp;first|with_reducible rfl|(rw [if_neg (by omega)];done));refine ov_ 10 (fun K hK=>?_);refine ca2_ (some 38) Tryz.func24 _ (laws_samePlace.calls k2 be bf _ _ bg bh _ bi bj _ _ bk bl _ _ _ (gt_ st) (gt_ st) (gt_ st) (gt_ st) (gt_ st) (gt_ st) (gt_ st) (gt_ st) A_38.out) ?_;rintro e w_ ⟨rfl,hb⟩;refine ⟨_,rfl,?_⟩;replace st:=st.ev hb;clear cl hb;have cl:=cl_ st;refine hK.out _ _ st.en (fun hs=>?_);clear hK K;refine nr_ 38 ?_;refine pv_ 11 ?_;refine done_ (done_of HT_.out (by kernel_rfl)) ?_;all_goals (try go_wp2)))
        go_roundg k2
        case measure=>have:=HJ3.out;have:=HK2.out;omega
        case rel=>exact ⟨(wrap64 (aH+1)),tx_,H',⟨by have:=HJ3.out;have:=HK2.out;omega⟩,st.en⟩
       ·
        replace H:=bf_ H;obtain rfl:=Option.some.inj H;(try go_wp2);(all_goals ((try clear ix_);obtain ⟨p_,q_,ad_,be,bf,bg,bh,e_,aw,ax,ay,l0_,C0_,l2_,C2_⟩:=a2_ (at_T35 (gC_ s0 k35 aI ad) aH);replace st:=st.c C0_ l0_;replace st:=st.c C2_ l2_;have ix456:=ix3_ Tryz.underlying36 e_ p_ q_ (c:=aJ);clear e_;obtain ⟨p_,q_,ad_,bi,bj,bk,bl,e_,az,aA,aB,l0_,C0_,l2_,C2_⟩:=a2_ (at_T35 (gC_ s0 k35 a9 aq) aH);replace st:=st.c C0_ l0_;replace st:=st.c C2_ l2_;have ix457:=ix3_ Tryz.underlying36 e_ p_ q_ (c:=bb);clear e_;refine rg_ st [] ?_;clear st cl;intro w_ st hs;have cl:=cl_ st;refine with_tabW laws_sameDesk.tab6 laws_sameDesk.bits6 (fun HT_ HW_=>?_);refine pv_ 0 ?_;refine pv_ 2 ?_;refine pv_ 5 ?_;refine pv_ 7 ?_;refine tu_ 1 ?_ (hy:=by intro w' s_;have cl:=cl_ s_;have y456_0:=cb_ s_ aw;have y456_1:=cb_ s_ ax;have y456_2:=cb_ s_ ay;have y457_0:=cb_ s_ az;have y457_1:=cb_ s_ aA;have y457_2:=cb_ s_ aB;go_simp;first|with_reducible rfl|(rw [if_neg (by omega)];done));refine tu_ 6 ?_ (hy:=by intro w' s_;have cl:=cl_ s_;have y456_0:=cb_ s_ aw;have y456_1:=cb_ s_ ax;have y456_2:=cb_ s_ ay;have y457_0:=cb_ s_ az;have y457_1:=cb_ s_ aA;have y457_2:=cb_ s_ aB;go_simp;first|with_reducible rfl|(rw [if_neg (by omega)];done));refine pv_ 3 ?_;refine pv_ 8 ?_;refine tu_ 4 ?_ (hy:=by intro w' s_;have cl:=cl_ s_;have y456_0:=cb_ s_ aw;have y456_1:=cb_ s_ ax;have y456_2:=cb_ s_ ay;have y457_0:=cb_ s_ az;have y457_1:=cb_ s_ aA;have y457_2:=cb_ s_ aB;go_simp;first|with_reducible rfl|(rw [if_neg (by omega)];done));refine tu_ 9 ?_ (hy:=by intro w' s_;have cl:=cl_ s_;have y456_0:=cb_ s_ aw;have y456_1:=cb_ s_ ax;have y456_2:=cb_ s_ ay;have y457_0:=cb_ s_ az;have y457_1:=cb_ s_ aA;have y457_2:=cb_ s_ aB;go_simp;first|with_reducible rfl|(rw [if_neg (by omega)];done));refine ov_ 10 (fun K hK=>?_);refine ca2_ (some 38) Tryz.func24 _ (laws_samePlace.calls k2 be bf _ _ bg bh _ bi bj _ _ bk bl _ _ _ (gt_ st) (gt_ st) (gt_ st) (gt_ st) (gt_ st) (gt_ st) (gt_ st) (gt_ st) A_38.out) ?_;rintro e w_ ⟨rfl,hb⟩;refine ⟨_,rfl,?_⟩;replace st:=st.ev hb;clear cl hb;have cl:=cl_ st;refine hK.out _ _ st.en (fun hs=>?_);clear hK K;refine nr_ 38 ?_;refine pv_ 11 ?_;refine done_ (done_of HT_.out (by kernel_rfl)) ?_;all_goals (try go_wp2)));go_ret;exact ⟨tw_,st.b⟩
      ·
       obtain rfl:=Option.some.inj H;go_wp2;go_ret;exact ⟨tw_,st.b⟩
def spec_l1In.f (a0:Int) (a1:Int) (a2:Int):Option (Bool):=if a0≥a1 then (some (decide (a0≤a2))) else (some false)
theorem spec_l1In.calls (a0:Int) (a1:Int) (a2:Int) (r:Bool) (w:World) (h:spec_l1In.f a0 a1 a2=some r) :
  Calls Tryz.prog 69 #[.int .i64 a0,.int .i64 a1,.int .i64 a2] w fun e w'=>e=.returned (.bool r)∧Drawn0 w w':=by
 have H:(if a0≥a1 then (some (decide (a0≤a2))) else (some false))=some r:=h;clear h;replace H:=ih_ H;rcases H with ⟨bc,H⟩|⟨bc,H⟩
 ·
  obtain rfl:=Option.some.inj H;go_enter Tryz.func69,Tryz.ntmps69;go_wp2;go_ret;exact ⟨tx_,dz_⟩
 ·
  obtain rfl:=Option.some.inj H;go_enter Tryz.func69,Tryz.ntmps69;go_wp2;go_ret;exact ⟨tx_,dz_⟩
def spec_UrnOk.l0:Nat→List Int→Int→Option (Bool)
 |0,_,_=>none
 |k+1,x0,x3=>if x3<(x0.length:Int) then (if 0≤x3 then ((spec_l1In.f (rd x0 x3) 0 40).bind fun bF=>(if bF=true then (spec_UrnOk.l0 k x0 (wrap64 (x3+1))) else (some false))) else (none)) else ((spec_l1In.f (x0.length:Int) 1 3).bind fun bG=>(some bG))
def spec_UrnOk.f (k:Nat) (l0:List Int):Option (Bool):=spec_UrnOk.l0 k l0 0
theorem spec_UrnOk.calls (k:Nat) (A0:Option Addr) (c0:Nat) (l0:List Int) (r:Bool) (w:World) (hr0:Kd.C (Kd.int .i64) w A0 l0.length l0) (hc0:l0.length≤c0) (h:spec_UrnOk.f k l0=some r) :
  Calls Tryz.prog 142 #[.slice A0 l0.length c0] w fun e w'=>e=.returned (.bool r)∧Drawn0 w w':=by
 have HR0:=A_ hr0;have HC0:=A_ hc0;clear hr0 hc0;have H:(spec_UrnOk.l0 k l0 0)=some r:=h;clear h;have H':=A_ H;clear H;go_enter Tryz.func142,Tryz.ntmps142;go_wp2
 go_loopg [3] k (fun kq v3 w'=>∃(ar:Int),v3=.int .i64 ar∧Aside0 (spec_UrnOk.l0 kq l0 ar=some r)∧Aside0 (kq≤k)∧Drawn0 w w')
 case atStart=>exact ⟨(0),tx_,H',⟨Nat.le_refl _⟩,dz_⟩
 case round =>
  clear H';obtain ⟨ar,rfl,HA,HK1,⟨m1,rfl⟩⟩:=hrel
  cases gk with
  |zero=>exact absurd HA.out (by simp [spec_UrnOk.l0])
  |succ k1 =>
   have H:=HA.out;clear HA;simp only [spec_UrnOk.l0] at H;replace H:=it_ H;rcases H with ⟨b4,H⟩|⟨b4,H⟩
   ·
    replace H:=in_ H;obtain ⟨bd,H⟩:=H;obtain ⟨bF,A4,H⟩:=bnd_ H;(try dsimp only at H);by_cases c5:bF=true
    ·
     subst c5;replace H:(spec_UrnOk.l0 k1 l0 (wrap64 (ar+1)))=some r:=by rw [if_pos rfl] at H;exact H
     have H':=A_ H;clear H;obtain ⟨p459,q459,ad459,e459,bx⟩:=a2_ (Kd.at_int HR0.out ar);cases e459;go_wp2_with (first|((with_reducible refine gate_callee (f:=69) rfl ?_);refine gl_ (some 14) Tryz.func69 #[.int .i64 (rd l0 ar),.int .i64 0,.int .i64 40] ?_;(with_reducible refine (spec_l1In.calls (rd l0 ar) 0 40 true _ A4.out).mono ?_);rintro e w' ⟨rfl,⟨nd,rfl⟩⟩;refine ⟨_,rfl,?_⟩))
     go_roundg k1
     case measure=>have:=HK1.out;omega
     case rel=>exact ⟨(wrap64 (ar+1)),tx_,H',⟨by have:=HK1.out;omega⟩,dz_⟩
    ·
     replace c5:=Bool.eq_false_iff.mpr c5;subst c5;replace H:(some false)=some r:=by rw [if_neg (show ¬(false=true) by decide)] at H;exact H
     obtain rfl:=Option.some.inj H;obtain ⟨p459,q459,ad459,e459,bx⟩:=a2_ (Kd.at_int HR0.out ar);cases e459;go_wp2_with (first|((with_reducible refine gate_callee (f:=69) rfl ?_);refine gl_ (some 14) Tryz.func69 #[.int .i64 (rd l0 ar),.int .i64 0,.int .i64 40] ?_;(with_reducible refine (spec_l1In.calls (rd l0 ar) 0 40 false _ A4.out).mono ?_);rintro e w' ⟨rfl,⟨nd,rfl⟩⟩;refine ⟨_,rfl,?_⟩));go_ret;exact ⟨tx_,dz_⟩
   ·
    obtain ⟨bG,A6,H⟩:=bnd_ H;(try dsimp only at H);obtain rfl:=Option.some.inj H;go_wp2_with (first|((with_reducible refine gate_callee (f:=69) rfl ?_);refine gl_ (some 18) Tryz.func69 #[.int .i64 (l0.length:Int),.int .i64 1,.int .i64 3] ?_;(with_reducible refine (spec_l1In.calls (l0.length:Int) 1 3 bG _ A6.out).mono ?_);rintro e w' ⟨rfl,⟨nd,rfl⟩⟩;refine ⟨_,rfl,?_⟩));go_ret;exact ⟨tx_,dz_⟩
end Go.Proofs.YtopboabeigakoaaGreatDoor.MFnStoreNever
