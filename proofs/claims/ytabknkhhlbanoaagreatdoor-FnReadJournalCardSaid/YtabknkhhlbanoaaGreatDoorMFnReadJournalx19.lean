/- Walks for FnReadJournal: a call returns what the plain function tells. Conditions: in each statement. -/
import Derived.Test.YtabknkhhlbanoaaGreatDoorMFnReadJournalx8
import Derived.Test.YtabknkhhlbanoaaGreatDoorMFnReadJournalx18
namespace Go.Proofs.YtabknkhhlbanoaaGreatDoor.MFnReadJournal
open Go.RowKit Go.Proofs.YtabknkhhlbanoaaGreatDoorW.PrintWords Go.Proofs.YtabknkhhlbanoaaGreatDoorW.PrintLast Go.Proofs.YtabknkhhlbanoaaGreatDoorW.PrintMore
set_option linter.unusedVariables false
set_option linter.unusedSimpArgs false
set_option maxHeartbeats 8000000
set_option maxRecDepth 100000
-- NOT PRINTED: function 31 (impl_answer)
def impl_DeskLine.f (k:Nat) (aa:List Int) (a0_1:Int) (ab:List Int) (ac:List (S30)) (a1:ByteArray):Option (List Int×Int×List Int×(List (S30))×ByteArray):=(impl_DeskOk.f k aa a0_1 ab ac).bind fun bB=>(if bB=true then ((impl_ReadDeed.f k a1).bind fun bp=>(if bp.2.2.2=true then ((impl_DeskDo.f k aa a0_1 ab ac bp.1 bp.2.1 bp.2.2.1).bind fun aK=>(if aK.2.2.2.2=true then (some (aK.1,aK.2.1,aK.2.2.1,aK.2.2.2.1,(⟨#[111,107]⟩:ByteArray))) else (some (aK.1,aK.2.1,aK.2.2.1,aK.2.2.2.1,(⟨#[110,111,116]⟩:ByteArray))))) else (none))) else (some (([]:List Int),0,([]:List Int),([]:List (S30)),(⟨#[]⟩:ByteArray))))
theorem impl_DeskLine.z0 {P_:Prop} (h_:P_:=by go_wp2_with (first|((with_reducible refine gd_ 2 ?_);refine al_ st ?_;clear st cl;intro g2 w_ st;have cl:=cl_ st)|((with_reducible refine gd_ 4 ?_);refine al_ st ?_;clear st cl;intro g4 w_ st;have cl:=cl_ st)|((with_reducible refine gc_ 28 ?_);refine ca_ (some 11) Tryz.func28 _ (impl_DeskOk.calls k ah ai _ _ aj ak _ av aw _ _ _ (gt_ st) (gt_ st) (gt_ st) (gt_ st) (gt_ st) (gt_ st) A_11.out) ?_;rintro e w_ ⟨rfl,hb⟩;refine ⟨_,rfl,?_⟩;replace st:=st.ev hb;clear cl hb;have cl:=cl_ st)|((with_reducible refine gc_ 22 ?_);refine ca_ (some 16) Tryz.func22 _ (impl_ReadDeed.calls k _ _ _ _ _ _ (GWb.below HG.out st.b) A_16.out) ?_;rintro e w_ ⟨rfl,hb⟩;refine ⟨_,rfl,?_⟩;replace st:=st.ev hb;clear cl hb;have cl:=cl_ st)|((with_reducible refine gd_ 6 ?_);refine al_ st ?_;clear st cl;intro g6 w_ st;have cl:=cl_ st)|((with_reducible refine gs_ 6 ?_);refine so3_ st ?_;clear st cl;intro w_ st;have cl:=cl_ st)|((with_reducible refine gc_ 29 ?_);refine ca_ (some 23) Tryz.func29 _ (impl_DeskDo.calls k ah ai _ _ aj ak _ av aw _ _ _ _ _ _ _ _ _ _ (gt_ st) (gt_ st) (gt_ st) (gt_ st) (gt_ st) (gt_ st) (GWb.below HG.out st.b) A_23.out) ?_;rintro e w_ ⟨v0,v1,v2,rfl,h0,h1,h2,hb⟩;refine ⟨_,rfl,?_⟩;obtain ⟨B23_0,d23_0,rfl⟩:=Kd.R_slice h0;obtain ⟨B23_2,d23_2,rfl⟩:=Kd.R_slice h1;obtain ⟨B23_3,d23_3,rfl⟩:=Kd.V_slice h2;replace st:=st.p3 hb (st.mr h0) (st.mr h1) (st.mv h2);clear cl hb h0 h1 h2;have cl:=cl_ st)|((with_reducible refine gd_ 8 ?_);refine al_ st ?_;clear st cl;intro g8 w_ st;have cl:=cl_ st)|((with_reducible refine gs_ 8 ?_);refine so4_ st ?_;clear st cl;intro w_ st;have cl:=cl_ st)|((with_reducible refine gs_ 4 ?_);refine so4_ st ?_;clear st cl;intro w_ st;have cl:=cl_ st));first|(refine bodyPost_ret (rct_ st Tryz.underlying33) rfl ?_;exact ⟨.slice B23_0 bN.length d23_0,.slice B23_2 bO.length d23_2,.slice B23_3 bP.length d23_3,tw_,gt_ st,gt_ st,gt_ st,st.b⟩)|(refine bodyPost_ret (rct_ st Tryz.underlying33) rfl ?_;exact ⟨.slice none 0 0,.slice none 0 0,.slice none 0 0,tw_,kn_,kn_,kn_,st.b⟩)):P_:=h_
theorem impl_DeskLine.calls (k:Nat) (ah:Option Addr) (ai:Nat) (aa:List Int) (a0_1:Int) (aj:Option Addr) (ak:Nat) (ab:List Int) (av:Option Addr) (aw:Nat) (ac:List (S30)) (a1:ByteArray) (r1:List Int) (r2:Int) (r3:List Int) (r4:List (S30)) (r5:ByteArray) (w:World) (hr0_0:Kd.C (Kd.int .i64) w ah aa.length aa) (hc0_0:aa.length≤ai) (hr0_2:Kd.C (Kd.int .i64) w aj ab.length ab) (hc0_2:ab.length≤ak) (hr0_3:Kd.C k30 w av ac.length ac) (hc0_3:ac.length≤aw) (hG:GWb w) (h:impl_DeskLine.f k aa a0_1 ab ac a1=some (r1,r2,r3,r4,r5)) :
  Calls Tryz.prog 10 #[.agg #[.slice ah aa.length ai,.int .i64 a0_1,.slice aj ab.length ak,.slice av ac.length aw],.string a1] w fun e w'=>∃v0_ v2_ v3_:Value,e=.returned (.tuple #[.agg #[v0_,.int .i64 r2,v2_,v3_],.string r5])∧Kd.R (Kd.int .i64) 3 w' w.heap.size (fun k_=>(w.heap.size≤k_)) v0_ r1∧Kd.R (Kd.int .i64) 3 w' w.heap.size (fun k_=>(w.heap.size≤k_)) v2_ r3∧Kd.V k30 30 w' w.heap.size (fun k_=>(w.heap.size≤k_)) v3_ r4∧Below w.heap.size w w':=by
 have HG:=A_ hG;clear hG;have hu33:=Tryz.underlying33;have hu41:=Tryz.underlying41;have hu30:=Tryz.underlying30;have st:=(((ST.nil w).c hr0_0 hc0_0).c hr0_2 hc0_2).c hr0_3 hc0_3;have s0:=st;have cl:=cl_ st;have H:=h;clear h;unfold impl_DeskLine.f at H;go_enter Tryz.func10,Tryz.ntmps10;obtain ⟨bB,A_11,H⟩:=bnd_ H;rcases bx_ bB with rfl|rfl
 ·
  replace H:=bt_ H;obtain ⟨⟨b8,b9,ca,bQ⟩,A_16,H⟩:=bnd_ H;(try dsimp only at H);rcases bx_ bQ with rfl|rfl
  ·
   replace H:=bt_ H;obtain ⟨⟨bN,cb,bO,bP,bR⟩,A_23,H⟩:=bnd_ H;(try dsimp only at H);rcases bx_ bR with rfl|rfl
   ·
    replace H:=bt_ H;obtain ⟨rfl,rfl,rfl,rfl,rfl⟩:=sj5_ H;exact impl_DeskLine.z0
   ·
    replace H:=bf_ H;obtain ⟨rfl,rfl,rfl,rfl,rfl⟩:=sj5_ H;exact impl_DeskLine.z0
  ·
   replace H:=bf_ H;cases H
 ·
  replace H:=bf_ H;obtain ⟨rfl,rfl,rfl,rfl,rfl⟩:=sj5_ H;exact impl_DeskLine.z0
def impl_doAll.l0:Nat→Int→List (S41)→Int→Int→List Int→Int→List Int→List (S30)→Option (List Int×Int×List Int×(List (S30))×Int)
 |0,_,_,_,_,_,_,_,_=>none
 |k+1,x6,x13,x14,x15,aQ,aR,aU,aV=>if x15<x14 then (if 0≤x15 then (if x15<(x13.length:Int) then ((impl_DeskDo.f k aQ aR aU aV ((rd_T41 x13 x15).f0) ((rd_T41 x13 x15).f1) ((rd_T41 x13 x15).f2)).bind fun bb=>(if bb.2.2.2.2=true then (impl_doAll.l0 k (wrap64 (x6+1)) x13 x14 (wrap64 (x15+1)) bb.1 bb.2.1 bb.2.2.1 bb.2.2.2.1) else (impl_doAll.l0 k x6 x13 x14 (wrap64 (x15+1)) aQ aR aU aV))) else (none)) else (none)) else (some (aQ,aR,aU,aV,x6))
def impl_doAll.f (k:Nat) (aa:List Int) (a0_1:Int) (ab:List Int) (ac:List (S30)) (l1:List (S41)):Option (List Int×Int×List Int×(List (S30))×Int):=(impl_copyDesk.f k aa a0_1 ab ac).bind fun bq=>(impl_doAll.l0 k 0 l1 (l1.length:Int) 0 bq.1 bq.2.1 bq.2.2.1 bq.2.2.2)
theorem impl_doAll.z0 {P_:Prop} (h_:P_:=by go_wp2_with (first|((with_reducible refine gd_ 17 ?_);obtain ⟨p_,q_,ad_,e_,x0,x1,x2⟩:=a2_ (at_T41 (gC_ st k41 A1 l1) ax);have ix_:=ix3_ Tryz.underlying24 e_ p_ q_ (c:=c1);clear e_;go_step)|((with_reducible refine gd_ 8 ?_);refine al_ st ?_;clear st cl;intro g8 w_ st;have cl:=cl_ st)|((with_reducible refine gs_ 8 ?_);refine so3_ st ?_;clear st cl;intro w_ st;have cl:=cl_ st)|((with_reducible refine gc_ 29 ?_);refine ca_ (some 22) Tryz.func29 _ (impl_DeskDo.calls k1 al am _ _ an ao _ ap aq _ _ _ _ _ _ _ _ _ _ (gt_ st) (gt_ st) (gt_ st) (gt_ st) (gt_ st) (gt_ st) (GWb.below HG.out st.b) A_22.out) ?_;rintro e w_ ⟨v0,v1,v2,rfl,h0,h1,h2,hb⟩;refine ⟨_,rfl,?_⟩;obtain ⟨B22_0,d22_0,rfl⟩:=Kd.R_slice h0;obtain ⟨B22_2,d22_2,rfl⟩:=Kd.R_slice h1;obtain ⟨B22_3,d22_3,rfl⟩:=Kd.V_slice h2;replace st:=st.p3 hb (st.mr h0) (st.mr h1) (st.mv h2);clear cl hb h0 h1 h2;have cl:=cl_ st)|((with_reducible refine gd_ 9 ?_);refine al_ st ?_;clear st cl;intro g9 w_ st;have cl:=cl_ st)|((with_reducible refine gs_ 9 ?_);refine so4_ st ?_;clear st cl;intro w_ st;have cl:=cl_ st)|((with_reducible refine gs_ 2 ?_);refine so4_ st ?_;clear st cl;intro w_ st;have cl:=cl_ st)|((with_reducible refine gs_ 4 ?_);refine so4_ st ?_;clear st cl;intro w_ st;have cl:=cl_ st));first|(go_roundg k1;(case measure=>have:=HK1.out;omega);(case rel=>exact ⟨(wrap64 (bu+1)),(wrap64 (ax+1)),(bS),(bU),(bV),(bW),B22_0,d22_0,B22_2,d22_2,B22_3,d22_3,tx_,tx_,H',⟨by have:=HK1.out;omega⟩,st.en⟩))|(go_roundg k1;(case measure=>have:=HK1.out;omega);(case rel=>exact ⟨(bu),(wrap64 (ax+1)),(ae),(aI),(af),(ag),al,am,an,ao,ap,aq,tx_,tx_,H',⟨by have:=HK1.out;omega⟩,st.en⟩))|(refine bodyPost_ret (rct_ st Tryz.underlying33) rfl ?_;exact ⟨.slice al ae.length am,.slice an af.length ao,.slice ap ag.length aq,tw_,gt_ st,gt_ st,gt_ st,st.b⟩)):P_:=h_
theorem impl_doAll.calls (k:Nat) (ah:Option Addr) (ai:Nat) (aa:List Int) (a0_1:Int) (aj:Option Addr) (ak:Nat) (ab:List Int) (av:Option Addr) (aw:Nat) (ac:List (S30)) (A1:Option Addr) (c1:Nat) (l1:List (S41)) (r1:List Int) (r2:Int) (r3:List Int) (r4:List (S30)) (r5:Int) (w:World) (hr0_0:Kd.C (Kd.int .i64) w ah aa.length aa) (hc0_0:aa.length≤ai) (hr0_2:Kd.C (Kd.int .i64) w aj ab.length ab) (hc0_2:ab.length≤ak) (hr0_3:Kd.C k30 w av ac.length ac) (hc0_3:ac.length≤aw) (hr1:Kd.C k41 w A1 l1.length l1) (hc1:l1.length≤c1) (hG:GWb w) (h:impl_doAll.f k aa a0_1 ab ac l1=some (r1,r2,r3,r4,r5)) :
  Calls Tryz.prog 33 #[.agg #[.slice ah aa.length ai,.int .i64 a0_1,.slice aj ab.length ak,.slice av ac.length aw],.slice A1 l1.length c1] w fun e w'=>∃v0_ v2_ v3_:Value,e=.returned (.tuple #[.agg #[v0_,.int .i64 r2,v2_,v3_],.int .i64 r5])∧Kd.R (Kd.int .i64) 3 w' w.heap.size (fun k_=>(w.heap.size≤k_)) v0_ r1∧Kd.R (Kd.int .i64) 3 w' w.heap.size (fun k_=>(w.heap.size≤k_)) v2_ r3∧Kd.V k30 30 w' w.heap.size (fun k_=>(w.heap.size≤k_)) v3_ r4∧Below w.heap.size w w':=by
 have HG:=A_ hG;clear hG;have hu33:=Tryz.underlying33;have hu41:=Tryz.underlying41;have st:=((((ST.nil w).c hr0_0 hc0_0).c hr0_2 hc0_2).c hr0_3 hc0_3).c hr1 hc1;have s0:=st;have cl:=cl_ st;have H:=h;clear h;unfold impl_doAll.f at H;go_enter Tryz.func33,Tryz.ntmps33;obtain ⟨⟨bX,bZ,b0,b1⟩,A_12,H⟩:=bnd_ H;(try dsimp only at H);have H':=A_ H;clear H;go_wp2_with (first|((with_reducible refine gd_ 2 ?_);refine al_ st ?_;clear st cl;intro g2 w_ st;have cl:=cl_ st)|((with_reducible refine gd_ 4 ?_);refine al_ st ?_;clear st cl;intro g4 w_ st;have cl:=cl_ st)|((with_reducible refine gc_ 30 ?_);refine ca_ (some 12) Tryz.func30 _ (impl_copyDesk.calls k ah ai _ _ aj ak _ av aw _ _ _ _ _ _ (gt_ st) (gt_ st) (gt_ st) (gt_ st) (gt_ st) (gt_ st) A_12.out) ?_;rintro e w_ ⟨v0,v1,v2,rfl,h0,h1,h2,hb⟩;refine ⟨_,rfl,?_⟩;obtain ⟨B12_0,d12_0,rfl⟩:=Kd.R_slice h0;obtain ⟨B12_2,d12_2,rfl⟩:=Kd.R_slice h1;obtain ⟨B12_3,d12_3,rfl⟩:=Kd.S_slice h2;replace st:=st.p3 hb (st.mr h0) (st.mr h1) (st.ms h2);clear cl hb h0 h1 h2;have cl:=cl_ st)|((with_reducible refine gs_ 2 ?_);refine so4_ st ?_;clear st cl;intro w_ st;have cl:=cl_ st))
 go_loopg [6,15] k (fun kq v6 cc w'=>∃(bu:Int) (ax:Int) (ae:List Int) (aI:Int) (af:List Int) (ag:List (S30)) (al:Option Addr) (am:Nat) (an:Option Addr) (ao:Nat) (ap:Option Addr) (aq:Nat),v6=.int .i64 bu∧cc=.int .i64 ax∧Aside0 (impl_doAll.l0 kq bu l1 (l1.length:Int) ax ae aI af ag=some (r1,r2,r3,r4,r5))∧Aside0 (kq≤k)∧ST w [CA k41 w A1 l1 c1,AR (Kd.int .i64) 3 w.heap.size (.slice al ae.length am) ae,AR (Kd.int .i64) 3 w.heap.size (.slice an af.length ao) af,AV k30 30 w.heap.size (.slice ap ag.length aq) ag] [Bx g2 #[.slice al ae.length am,.int .i64 aI,.slice an af.length ao,.slice ap ag.length aq] 33,Bx g4 #[.slice none 0 0,.int .i64 0,.slice none 0 0,.slice none 0 0] 33] w')
 case atStart=>exact ⟨(0),(0),(bX),(bZ),(b0),(b1),B12_0,d12_0,B12_2,d12_2,B12_3,d12_3,tx_,tx_,H',⟨Nat.le_refl _⟩,st.en⟩
 case round =>
  clear H' st cl;obtain ⟨bu,ax,ae,aI,af,ag,al,am,an,ao,ap,aq,rfl,rfl,HA,HK1,st⟩:=hrel;have cl:=cl_ st
  cases gk with
  |zero=>exact absurd HA.out (by simp [impl_doAll.l0])
  |succ k1 =>
   have H:=HA.out;clear HA;simp only [impl_doAll.l0] at H;replace H:=it_ H;rcases H with ⟨bw,H⟩|⟨bw,H⟩
   ·
    replace H:=in_ H;obtain ⟨bI,H⟩:=H;replace H:=in_ H;obtain ⟨bv,H⟩:=H;obtain ⟨⟨bS,bU,bV,bW,b2⟩,A_22,H⟩:=bnd_ H;(try dsimp only at H);rcases bx_ b2 with rfl|rfl
    ·
     replace H:=bt_ H;have H':=A_ H;clear H;exact impl_doAll.z0
    ·
     replace H:=bf_ H;have H':=A_ H;clear H;exact impl_doAll.z0
   ·
    obtain ⟨rfl,rfl,rfl,rfl,rfl⟩:=sj5_ H;exact impl_doAll.z0
def impl_DeskRun.f (k:Nat) (aa:List Int) (a0_1:Int) (ab:List Int) (ac:List (S30)) (l1:List (S41)):Option (List Int×Int×List Int×(List (S30))×Int):=(impl_DeskOk.f k aa a0_1 ab ac).bind fun bC=>(if bC=true then (if (l1.length:Int)>40 then (some (([]:List Int),0,([]:List Int),([]:List (S30)),0)) else ((impl_doAll.f k aa a0_1 ab ac l1).bind fun bc=>(some (bc.1,bc.2.1,bc.2.2.1,bc.2.2.2.1,bc.2.2.2.2)))) else (some (([]:List Int),0,([]:List Int),([]:List (S30)),0)))
theorem impl_DeskRun.z0 {P_:Prop} (h_:P_:=by go_wp2_with (first|((with_reducible refine gd_ 2 ?_);refine al_ st ?_;clear st cl;intro g2 w_ st;have cl:=cl_ st)|((with_reducible refine gd_ 4 ?_);refine al_ st ?_;clear st cl;intro g4 w_ st;have cl:=cl_ st)|((with_reducible refine gc_ 28 ?_);refine ca_ (some 7) Tryz.func28 _ (impl_DeskOk.calls k ah ai _ _ aj ak _ av aw _ _ _ (gt_ st) (gt_ st) (gt_ st) (gt_ st) (gt_ st) (gt_ st) A_7.out) ?_;rintro e w_ ⟨rfl,hb⟩;refine ⟨_,rfl,?_⟩;replace st:=st.ev hb;clear cl hb;have cl:=cl_ st)|((with_reducible refine gs_ 4 ?_);refine so4_ st ?_;clear st cl;intro w_ st;have cl:=cl_ st)|((with_reducible refine gc_ 33 ?_);refine ca_ (some 17) Tryz.func33 _ (impl_doAll.calls k ah ai _ _ aj ak _ av aw _ A1 c1 _ _ _ _ _ _ _ (gt_ st) (gt_ st) (gt_ st) (gt_ st) (gt_ st) (gt_ st) (gt_ st) (gt_ st) (GWb.below HG.out st.b) A_17.out) ?_;rintro e w_ ⟨v0,v1,v2,rfl,h0,h1,h2,hb⟩;refine ⟨_,rfl,?_⟩;obtain ⟨B17_0,d17_0,rfl⟩:=Kd.R_slice h0;obtain ⟨B17_2,d17_2,rfl⟩:=Kd.R_slice h1;obtain ⟨B17_3,d17_3,rfl⟩:=Kd.V_slice h2;replace st:=st.p3 hb (st.mr h0) (st.mr h1) (st.mv h2);clear cl hb h0 h1 h2;have cl:=cl_ st));first|(refine bodyPost_ret (rct_ st Tryz.underlying33) rfl ?_;exact ⟨.slice none 0 0,.slice none 0 0,.slice none 0 0,tw_,kn_,kn_,kn_,st.b⟩)|(refine bodyPost_ret (rct_ st Tryz.underlying33) rfl ?_;exact ⟨.slice B17_0 b3.length d17_0,.slice B17_2 b4.length d17_2,.slice B17_3 b5.length d17_3,tw_,gt_ st,gt_ st,gt_ st,st.b⟩)):P_:=h_
theorem impl_DeskRun.calls (k:Nat) (ah:Option Addr) (ai:Nat) (aa:List Int) (a0_1:Int) (aj:Option Addr) (ak:Nat) (ab:List Int) (av:Option Addr) (aw:Nat) (ac:List (S30)) (A1:Option Addr) (c1:Nat) (l1:List (S41)) (r1:List Int) (r2:Int) (r3:List Int) (r4:List (S30)) (r5:Int) (w:World) (hr0_0:Kd.C (Kd.int .i64) w ah aa.length aa) (hc0_0:aa.length≤ai) (hr0_2:Kd.C (Kd.int .i64) w aj ab.length ab) (hc0_2:ab.length≤ak) (hr0_3:Kd.C k30 w av ac.length ac) (hc0_3:ac.length≤aw) (hr1:Kd.C k41 w A1 l1.length l1) (hc1:l1.length≤c1) (hG:GWb w) (h:impl_DeskRun.f k aa a0_1 ab ac l1=some (r1,r2,r3,r4,r5)) :
  Calls Tryz.prog 12 #[.agg #[.slice ah aa.length ai,.int .i64 a0_1,.slice aj ab.length ak,.slice av ac.length aw],.slice A1 l1.length c1] w fun e w'=>∃v0_ v2_ v3_:Value,e=.returned (.tuple #[.agg #[v0_,.int .i64 r2,v2_,v3_],.int .i64 r5])∧Kd.R (Kd.int .i64) 3 w' w.heap.size (fun k_=>(w.heap.size≤k_)) v0_ r1∧Kd.R (Kd.int .i64) 3 w' w.heap.size (fun k_=>(w.heap.size≤k_)) v2_ r3∧Kd.V k30 30 w' w.heap.size (fun k_=>(w.heap.size≤k_)) v3_ r4∧Below w.heap.size w w':=by
 have HG:=A_ hG;clear hG;have hu33:=Tryz.underlying33;have st:=((((ST.nil w).c hr0_0 hc0_0).c hr0_2 hc0_2).c hr0_3 hc0_3).c hr1 hc1;have s0:=st;have cl:=cl_ st;have H:=h;clear h;unfold impl_DeskRun.f at H;go_enter Tryz.func12,Tryz.ntmps12;obtain ⟨bC,A_7,H⟩:=bnd_ H;rcases bx_ bC with rfl|rfl
 ·
  replace H:=bt_ H;by_cases c3:(l1.length:Int)>40
  ·
   rw [if_pos c3] at H;have bd:decide (40<(l1.length:Int))=true:=decide_eq_true c3;have bs:decide (40<l1.length)=true:=decide_eq_true (by omega);clear c3;obtain ⟨rfl,rfl,rfl,rfl,rfl⟩:=sj5_ H;exact impl_DeskRun.z0
  ·
   rw [if_neg c3] at H;have bd:decide (40<(l1.length:Int))=false:=decide_eq_false c3;have bs:decide (40<l1.length)=false:=decide_eq_false (by omega);clear c3;obtain ⟨⟨b3,cd,b4,b5,ce⟩,A_17,H⟩:=bnd_ H;(try dsimp only at H);obtain ⟨rfl,rfl,rfl,rfl,rfl⟩:=sj5_ H;exact impl_DeskRun.z0
 ·
  replace H:=bf_ H;obtain ⟨rfl,rfl,rfl,rfl,rfl⟩:=sj5_ H;exact impl_DeskRun.z0
def impl_JournalText.l0:Nat→ByteArray→List (S41)→Int→Int→Option (ByteArray)
 |0,_,_,_,_=>none
 |k+1,x3,x7,x8,x9=>if x9<x8 then (if 0≤x9 then (if x9<(x7.length:Int) then ((impl_DeedText.f k ((rd_T41 x7 x9).f0) ((rd_T41 x7 x9).f1) ((rd_T41 x7 x9).f2)).bind fun aH=>(if aH.toList=([]:List UInt8) then (some (⟨#[]⟩:ByteArray)) else (if aH.size+1≤9223372036854775807 then (if x3.size+(aH++(⟨#[10]⟩:ByteArray)).size≤9223372036854775807 then (impl_JournalText.l0 k (x3++(aH++(⟨#[10]⟩:ByteArray))) x7 x8 (wrap64 (x9+1))) else (none)) else (none)))) else (none)) else (none)) else (some x3)
def impl_JournalText.f (k:Nat) (l0:List (S41)):Option (ByteArray):=impl_JournalText.l0 k (⟨#[]⟩:ByteArray) l0 (l0.length:Int) 0
theorem impl_JournalText.z0 {P_:Prop} (h_:P_:=by go_wp2_with (first|((with_reducible refine gd_ 11 ?_);obtain ⟨p_,q_,ad_,e_,x0,x1,x2⟩:=a2_ (at_T41 (gC_ st k41 A0 l0) aL);have ix_:=ix3_ Tryz.underlying24 e_ p_ q_ (c:=c0);clear e_;go_step)|((with_reducible refine gd_ 5 ?_);refine al_ st ?_;clear st cl;intro g5 w_ st;have cl:=cl_ st)|((with_reducible refine gs_ 5 ?_);refine so3_ st ?_;clear st cl;intro w_ st;have cl:=cl_ st)|((with_reducible refine gc_ 11 ?_);refine ca_ (some 14) Tryz.func11 _ (impl_DeedText.calls k1 _ _ _ _ _ (GWb.below HG.out st.b) A_14.out) ?_;rintro e w_ ⟨rfl,hb⟩;refine ⟨_,rfl,?_⟩;replace st:=st.ev hb;clear cl hb;have cl:=cl_ st));first|(go_ret;exact ⟨tw_,st.b⟩)|(go_roundg k1;(case measure=>have:=HK1.out;omega);(case rel=>exact ⟨(be++(aH++(⟨#[10]⟩:ByteArray))),(wrap64 (aL+1)),tx_,tx_,H',⟨by have:=HK1.out;omega⟩,st.en⟩))):P_:=h_
theorem impl_JournalText.calls (k:Nat) (A0:Option Addr) (c0:Nat) (l0:List (S41)) (r:ByteArray) (w:World) (hr0:Kd.C k41 w A0 l0.length l0) (hc0:l0.length≤c0) (hG:GWb w) (h:impl_JournalText.f k l0=some r) :
  Calls Tryz.prog 13 #[.slice A0 l0.length c0] w fun e w'=>e=.returned (.string r)∧Below w.heap.size w w':=by
 have HG:=A_ hG;clear hG;have hu41:=Tryz.underlying41;have st:=(ST.nil w).c hr0 hc0;have s0:=st;have cl:=cl_ st;have H:=h;clear h;unfold impl_JournalText.f at H;go_enter Tryz.func13,Tryz.ntmps13;have H':=A_ H;clear H;go_wp2
 go_loopg [3,9] k (fun kq v3 v9 w'=>∃(be:ByteArray) (aL:Int),v3=.string be∧v9=.int .i64 aL∧Aside0 (impl_JournalText.l0 kq be l0 (l0.length:Int) aL=some r)∧Aside0 (kq≤k)∧ST w [CA k41 w A0 l0 c0] [] w')
 case atStart=>exact ⟨((⟨#[]⟩:ByteArray)),(0),tx_,tx_,H',⟨Nat.le_refl _⟩,st.en⟩
 case round =>
  clear H' st cl;obtain ⟨be,aL,rfl,rfl,HA,HK1,st⟩:=hrel;have cl:=cl_ st
  cases gk with
  |zero=>exact absurd HA.out (by simp [impl_JournalText.l0])
  |succ k1 =>
   have H:=HA.out;clear HA;simp only [impl_JournalText.l0] at H;replace H:=it_ H;rcases H with ⟨bd,H⟩|⟨bd,H⟩
   ·
    replace H:=in_ H;obtain ⟨bw,H⟩:=H;replace H:=in_ H;obtain ⟨bI,H⟩:=H;obtain ⟨aH,A_14,H⟩:=bnd_ H;by_cases c6:aH.toList=([]:List UInt8)
    ·
     rw [if_pos c6] at H;have bv:(aH.toList == ([]:List UInt8))=true:=beq_iff_eq.mpr c6;have b6:(aH.toList != ([]:List UInt8))=false:=bne_eq_false_iff_eq.mpr c6;clear c6;obtain rfl:=Option.some.inj H;exact impl_JournalText.z0
    ·
     rw [if_neg c6] at H;have bv:(aH.toList == ([]:List UInt8))=false:=beq_eq_false_iff_ne.mpr c6;have b6:(aH.toList != ([]:List UInt8))=true:=bne_iff_ne.mpr c6;replace H:=i0_ H;obtain ⟨c7,H⟩:=H;have bD:=eq_true c7;have bJ:decide (aH.size+1≤9223372036854775807)=true:=decide_eq_true c7;(try have cf:(9223372036854775807<aH.size+1)=False:=eq_false (Nat.not_lt.2 c7));replace H:=i0_ H;obtain ⟨c8,H⟩:=H;have b7:=eq_true c8;have cg:decide (be.size+(aH++(⟨#[10]⟩:ByteArray)).size≤9223372036854775807)=true:=decide_eq_true c8;(try have ch:(9223372036854775807<be.size+(aH++(⟨#[10]⟩:ByteArray)).size)=False:=eq_false (Nat.not_lt.2 c8));(try have ci:(9223372036854775807<be.size+(aH.size+1))=False:=eq_false (by have h:=c8;simp only [ByteArray.size_append] at h;simp only [ByteArray.size] at h ⊢;simp at h ⊢;omega));have H':=A_ H;clear H;exact impl_JournalText.z0
   ·
    obtain rfl:=Option.some.inj H;exact impl_JournalText.z0
def laws_sameInts.l0:Nat→List Int→List Int→Int→Option (Bool)
 |0,_,_,_=>none
 |k+1,x0,x1,x5=>if x5<(x0.length:Int) then (if 0≤x5 then (if x5<(x1.length:Int) then (if (rd x0 x5)=(rd x1 x5) then (laws_sameInts.l0 k x0 x1 (wrap64 (x5+1))) else (some false)) else (none)) else (none)) else (some true)
def laws_sameInts.f (k:Nat) (l0:List Int) (l1:List Int):Option (Bool):=if (l0.length:Int)=(l1.length:Int) then (laws_sameInts.l0 k l0 l1 0) else (some false)
theorem laws_sameInts.calls (k:Nat) (A0:Option Addr) (c0:Nat) (l0:List Int) (A1:Option Addr) (c1:Nat) (l1:List Int) (r:Bool) (w:World) (hr0:Kd.C (Kd.int .i64) w A0 l0.length l0) (hc0:l0.length≤c0) (hr1:Kd.C (Kd.int .i64) w A1 l1.length l1) (hc1:l1.length≤c1) (h:laws_sameInts.f k l0 l1=some r) :
  Calls Tryz.prog 71 #[.slice A0 l0.length c0,.slice A1 l1.length c1] w fun e w'=>e=.returned (.bool r)∧Drawn0 w w':=by
 have HR0:=A_ hr0;have HC0:=A_ hc0;clear hr0 hc0;have HR1:=A_ hr1;have HC1:=A_ hc1;clear hr1 hc1;have H:=h;clear h;unfold laws_sameInts.f at H;by_cases c3:(l0.length:Int)=(l1.length:Int)
 ·
  rw [if_pos c3] at H;have bd:((l0.length:Int) == (l1.length:Int))=true:=beq_iff_eq.mpr c3;have bs:((l0.length:Int) != (l1.length:Int))=false:=bne_eq_false_iff_eq.mpr c3;have bK:(l0.length == l1.length)=true:=by first|simpa using c3|(simp at c3 ⊢;omega)
  clear c3;have H':=A_ H;clear H;go_enter Tryz.func71,Tryz.ntmps71;go_wp2;repeat (go_quiet (fail);try go_wp2)
  go_loopg [5] k (fun kq v5 w'=>∃(ad:Int),v5=.int .i64 ad∧Aside0 (laws_sameInts.l0 kq l0 l1 ad=some r)∧Aside0 (kq≤k)∧Drawn0 w w')
  case atStart=>exact ⟨(0),tx_,H',⟨Nat.le_refl _⟩,dz_⟩
  case round =>
   clear H';(try clear c3);(try clear bd);(try clear bs);(try clear bK);obtain ⟨ad,rfl,HA,HK1,⟨m1,rfl⟩⟩:=hrel
   cases gk with
   |zero=>exact absurd HA.out (by simp [laws_sameInts.l0])
   |succ k1 =>
    have H:=HA.out;clear HA;simp only [laws_sameInts.l0] at H;replace H:=it_ H;rcases H with ⟨bw,H⟩|⟨bw,H⟩
    ·
     replace H:=in_ H;obtain ⟨bI,H⟩:=H;replace H:=in_ H;obtain ⟨bv,H⟩:=H;by_cases c7:(rd l0 ad)=(rd l1 ad)
     ·
      rw [if_pos c7] at H;have bD:((rd l0 ad) == (rd l1 ad))=true:=beq_iff_eq.mpr c7;have bJ:((rd l0 ad) != (rd l1 ad))=false:=bne_eq_false_iff_eq.mpr c7;clear c7;have H':=A_ H;clear H;obtain ⟨p906,q906,ad906,e906,bx⟩:=a2_ (Kd.at_int HR0.out ad);cases e906;obtain ⟨p907,q907,ad907,e907,bz⟩:=a2_ (Kd.at_int HR1.out ad);cases e907;go_wp2;repeat (go_quiet (fail);try go_wp2)
      go_roundg k1
      case measure=>have:=HK1.out;omega
      case rel=>exact ⟨(wrap64 (ad+1)),tx_,H',⟨by have:=HK1.out;omega⟩,dz_⟩
     ·
      rw [if_neg c7] at H;have bD:((rd l0 ad) == (rd l1 ad))=false:=beq_eq_false_iff_ne.mpr c7;have bJ:((rd l0 ad) != (rd l1 ad))=true:=bne_iff_ne.mpr c7;obtain rfl:=Option.some.inj H;obtain ⟨p906,q906,ad906,e906,bx⟩:=a2_ (Kd.at_int HR0.out ad);cases e906;obtain ⟨p907,q907,ad907,e907,bz⟩:=a2_ (Kd.at_int HR1.out ad);cases e907;go_wp2;repeat (go_quiet (fail);try go_wp2)
      go_ret;exact ⟨tx_,dz_⟩
    ·
     obtain rfl:=Option.some.inj H;go_wp2;repeat (go_quiet (fail);try go_wp2)
     go_ret;exact ⟨tx_,dz_⟩
 ·
  rw [if_neg c3] at H;have bd:((l0.length:Int) == (l1.length:Int))=false:=beq_eq_false_iff_ne.mpr c3;have bs:((l0.length:Int) != (l1.length:Int))=true:=bne_iff_ne.mpr c3;have bK:(l0.length == l1.length)=false:=by first|simpa using c3|(simp at c3 ⊢;omega)
  obtain rfl:=Option.some.inj H;go_enter Tryz.func71,Tryz.ntmps71;go_wp2;repeat (go_quiet (fail);try go_wp2)
  go_ret;exact ⟨tx_,dz_⟩
def laws_samePlace.f (k:Nat) (aa:List Int) (a0_1:Int) (ab:List Int) (ar:List Int) (a1_1:Int) (au:List Int):Option (Bool):=(laws_sameInts.f k aa ar).bind fun bE=>(if bE=true then (if a0_1=a1_1 then ((laws_sameInts.f k ab au).bind fun bL=>(some bL)) else (some false)) else (some false))
theorem laws_samePlace.z0 {P_:Prop} (h_:P_:=by go_wp2_with (first|((with_reducible refine gd_ 2 ?_);refine al_ st ?_;clear st cl;intro g2 w_ st;have cl:=cl_ st)|((with_reducible refine gd_ 3 ?_);refine al_ st ?_;clear st cl;intro g3 w_ st;have cl:=cl_ st)|((with_reducible refine gc_ 71 ?_);refine ca_ (some 9) Tryz.func71 _ (laws_sameInts.calls k ah ai _ aM aN _ _ _ (gt_ st) (gt_ st) (gt_ st) (gt_ st) A_9.out) ?_;rintro e w_ ⟨rfl,hb⟩;refine ⟨_,rfl,?_⟩;replace hb:=hb.below;replace st:=st.ev hb;clear cl hb;have cl:=cl_ st)|((with_reducible refine gc_ 71 ?_);refine gate_guard (by rfl) ?_;dsimp only;refine ca_ (some 22) Tryz.func71 _ (laws_sameInts.calls k aj ak _ aO aP _ _ _ (gt_ st) (gt_ st) (gt_ st) (gt_ st) A_22.out) ?_;rintro e w_ ⟨rfl,hb⟩;refine ⟨_,rfl,?_⟩;replace hb:=hb.below;replace st:=st.ev hb;clear cl hb;have cl:=cl_ st));(go_ret;exact ⟨tw_,st.b⟩)):P_:=h_
theorem laws_samePlace.calls (k:Nat) (ah:Option Addr) (ai:Nat) (aa:List Int) (a0_1:Int) (aj:Option Addr) (ak:Nat) (ab:List Int) (aM:Option Addr) (aN:Nat) (ar:List Int) (a1_1:Int) (aO:Option Addr) (aP:Nat) (au:List Int) (r:Bool) (w:World) (hr0_0:Kd.C (Kd.int .i64) w ah aa.length aa) (hc0_0:aa.length≤ai) (hr0_2:Kd.C (Kd.int .i64) w aj ab.length ab) (hc0_2:ab.length≤ak) (hr1_0:Kd.C (Kd.int .i64) w aM ar.length ar) (hc1_0:ar.length≤aN) (hr1_2:Kd.C (Kd.int .i64) w aO au.length au) (hc1_2:au.length≤aP) (h:laws_samePlace.f k aa a0_1 ab ar a1_1 au=some r) :
  Calls Tryz.prog 34 #[.agg #[.slice ah aa.length ai,.int .i64 a0_1,.slice aj ab.length ak],.agg #[.slice aM ar.length aN,.int .i64 a1_1,.slice aO au.length aP]] w fun e w'=>e=.returned (.bool r)∧Below w.heap.size w w':=by
 have hu30:=Tryz.underlying30;have st:=((((ST.nil w).c hr0_0 hc0_0).c hr0_2 hc0_2).c hr1_0 hc1_0).c hr1_2 hc1_2;have s0:=st;have cl:=cl_ st;have H:=h;clear h;unfold laws_samePlace.f at H;go_enter Tryz.func34,Tryz.ntmps34;obtain ⟨bE,A_9,H⟩:=bnd_ H;rcases bx_ bE with rfl|rfl
 ·
  replace H:=bt_ H;by_cases c3:a0_1=a1_1
  ·
   rw [if_pos c3] at H;have bd:(a0_1 == a1_1)=true:=beq_iff_eq.mpr c3;have bs:(a0_1 != a1_1)=false:=bne_eq_false_iff_eq.mpr c3;clear c3;obtain ⟨bL,A_22,H⟩:=bnd_ H;obtain rfl:=Option.some.inj H;exact laws_samePlace.z0
  ·
   rw [if_neg c3] at H;have bd:(a0_1 == a1_1)=false:=beq_eq_false_iff_ne.mpr c3;have bs:(a0_1 != a1_1)=true:=bne_iff_ne.mpr c3;obtain rfl:=Option.some.inj H;exact laws_samePlace.z0
 ·
  replace H:=bf_ H;obtain rfl:=Option.some.inj H;exact laws_samePlace.z0
mutual
def laws_sameDesk.j0:Nat→Bool→List Int→Int→List Int→List (S30)→List Int→Int→List Int→List (S30)→Option (Bool)
 |0,_,_,_,_,_,_,_,_,_=>none
 |k+1,x20,aW,aX,aY,az,aZ,a8,a9,aA=>if x20=true then (some false) else (laws_sameDesk.l0 k 0 aW aX aY az aZ a8 a9 aA)
def laws_sameDesk.l0:Nat→Int→List Int→Int→List Int→List (S30)→List Int→Int→List Int→List (S30)→Option (Bool)
 |0,_,_,_,_,_,_,_,_,_=>none
 |k+1,x5,aW,aX,aY,az,aZ,a8,a9,aA=>if x5<(az.length:Int) then (if 0≤x5 then (if x5<(aA.length:Int) then ((laws_samePlace.f k ((rd_T30 az x5).f0) ((rd_T30 az x5).f1) ((rd_T30 az x5).f2) ((rd_T30 aA x5).f0) ((rd_T30 aA x5).f1) ((rd_T30 aA x5).f2)).bind fun bF=>(if bF=true then (laws_sameDesk.l0 k (wrap64 (x5+1)) aW aX aY az aZ a8 a9 aA) else (some false))) else (none)) else (none)) else (some true)
end
def laws_sameDesk.f (k:Nat) (aa:List Int) (a0_1:Int) (ab:List Int) (ac:List (S30)) (ar:List Int) (a1_1:Int) (au:List Int) (ay:List (S30)):Option (Bool):=(laws_samePlace.f k aa a0_1 ab ar a1_1 au).bind fun bG=>(if bG=true then (laws_sameDesk.j0 k ((ac.length:Int) != (ay.length:Int)) aa a0_1 ab ac ar a1_1 au ay) else (laws_sameDesk.j0 k true aa a0_1 ab ac ar a1_1 au ay))
def laws_sameDesk.T6:Bool×List (List Nat×List Nat):=(true,[([],[]),([0],[0]),([],[]),([1,2],[1,2]),([3],[3]),([],[]),([5],[5]),([],[]),([6,7],[6,7]),([8],[8]),([4,9],[4,9]),([10],[10])])
def laws_sameDesk.B6:List Nat:=[0,1,0,7,15,0,32,0,224,480,1023,2047]
theorem laws_sameDesk.tab6:rtab .any (opsOf Tryz.f14 6)=laws_sameDesk.T6:=by kernel_rfl
theorem laws_sameDesk.bits6:waitsOk laws_sameDesk.T6.2 laws_sameDesk.B6=true:=by kernel_rfl
theorem laws_sameDesk.z0 {P_:Prop} (h_:P_:=by go_wp2_with (first|((with_reducible refine gc_ 34 ?_);refine ca_ (some 10) Tryz.func34 _ (laws_samePlace.calls k ah ai _ _ aj ak _ aM aN _ _ aO aP _ _ _ (gt_ st) (gt_ st) (gt_ st) (gt_ st) (gt_ st) (gt_ st) (gt_ st) (gt_ st) A_10.out) ?_;rintro e w_ ⟨rfl,hb⟩;refine ⟨_,rfl,?_⟩;replace st:=st.ev hb;clear cl hb;have cl:=cl_ st));first|(go_meet;(case rel=>exact ⟨_,(((ac.length:Int) != (ay.length:Int))),tx_,H',⟨by first|omega|exact Nat.le_refl _⟩,st.en⟩))|(go_meet;(case rel=>exact ⟨_,(true),tx_,H',⟨by first|omega|exact Nat.le_refl _⟩,st.en⟩))):P_:=h_
theorem laws_sameDesk.calls (k:Nat) (ah:Option Addr) (ai:Nat) (aa:List Int) (a0_1:Int) (aj:Option Addr) (ak:Nat) (ab:List Int) (av:Option Addr) (aw:Nat) (ac:List (S30)) (aM:Option Addr) (aN:Nat) (ar:List Int) (a1_1:Int) (aO:Option Addr) (aP:Nat) (au:List Int) (bf:Option Addr) (bg:Nat) (ay:List (S30)) (r:Bool) (w:World) (hr0_0:Kd.C (Kd.int .i64) w ah aa.length aa) (hc0_0:aa.length≤ai) (hr0_2:Kd.C (Kd.int .i64) w aj ab.length ab) (hc0_2:ab.length≤ak) (hr0_3:Kd.C k30 w av ac.length ac) (hc0_3:ac.length≤aw) (hr1_0:Kd.C (Kd.int .i64) w aM ar.length ar) (hc1_0:ar.length≤aN) (hr1_2:Kd.C (Kd.int .i64) w aO au.length au) (hc1_2:au.length≤aP) (hr1_3:Kd.C k30 w bf ay.length ay) (hc1_3:ay.length≤bg) (h:laws_sameDesk.f k aa a0_1 ab ac ar a1_1 au ay=some r) :
  Calls Tryz.prog 14 #[.agg #[.slice ah aa.length ai,.int .i64 a0_1,.slice aj ab.length ak,.slice av ac.length aw],.agg #[.slice aM ar.length aN,.int .i64 a1_1,.slice aO au.length aP,.slice bf ay.length bg]] w fun e w'=>e=.returned (.bool r)∧Below w.heap.size w w':=by
 have hu33:=Tryz.underlying33;have hu30:=Tryz.underlying30;have st:=((((((ST.nil w).c hr0_0 hc0_0).c hr0_2 hc0_2).c hr0_3 hc0_3).c hr1_0 hc1_0).c hr1_2 hc1_2).c hr1_3 hc1_3;have s0:=st;have cl:=cl_ st;have H:=h;clear h;unfold laws_sameDesk.f at H;go_enter Tryz.func14,Tryz.ntmps14;have HC4:=A_ H;clear H
 go_upto_region 1 with (first|((with_reducible refine gd_ 2 ?_);refine al_ st ?_;clear st cl;intro g2 w_ st;have cl:=cl_ st)|((with_reducible refine gd_ 3 ?_);refine al_ st ?_;clear st cl;intro g3 w_ st;have cl:=cl_ st))
 (try simp only [Act.put,sa_,sb_,sc_])
 go_cut [20] (fun cj wc=>∃(kq:Nat) (br:Bool),cj=.bool br∧Aside0 (laws_sameDesk.j0 kq br aa a0_1 ab ac ar a1_1 au ay=some r)∧Aside0 (kq≤k)∧ST w [CA (Kd.int .i64) w ah aa ai,CA (Kd.int .i64) w aj ab ak,CA k30 w av ac aw,CA (Kd.int .i64) w aM ar aN,CA (Kd.int .i64) w aO au aP,CA k30 w bf ay bg] [Bx g2 #[.slice ah aa.length ai,.int .i64 a0_1,.slice aj ab.length ak,.slice av ac.length aw] 33,Bx g3 #[.slice aM ar.length aN,.int .i64 a1_1,.slice aO au.length aP,.slice bf ay.length bg] 33] wc)
 case first =>
  have H:=HC4.out;clear HC4;obtain ⟨bG,A_10,H⟩:=bnd_ H;rcases bx_ bG with rfl|rfl
  ·
   replace H:=bt_ H;have H':=A_ H;clear H;exact laws_sameDesk.z0
  ·
   replace H:=bf_ H;have H':=A_ H;clear H;exact laws_sameDesk.z0
 case rest =>
  clear HC4 st cl;obtain ⟨kq,br,rfl,HA,HJ3,st⟩:=hcut;have cl:=cl_ st
  cases kq with
  |zero=>exact absurd HA.out (by simp [laws_sameDesk.j0])
  |succ kj3 =>
   have H:=HA.out;clear HA;simp only [laws_sameDesk.j0] at H;rcases bx_ br with rfl|rfl
   ·
    replace H:=bt_ H;obtain rfl:=Option.some.inj H;go_wp2;go_ret;exact ⟨tw_,st.b⟩
   ·
    replace H:=bf_ H;have H':=A_ H;clear H;go_wp2
    go_loopg [5] kj3 (fun kq v5 w'=>∃(aJ:Int),v5=.int .i64 aJ∧Aside0 (laws_sameDesk.l0 kq aJ aa a0_1 ab ac ar a1_1 au ay=some r)∧Aside0 (kq≤kj3)∧ST w [CA (Kd.int .i64) w ah aa ai,CA (Kd.int .i64) w aj ab ak,CA k30 w av ac aw,CA (Kd.int .i64) w aM ar aN,CA (Kd.int .i64) w aO au aP,CA k30 w bf ay bg] [Bx g2 #[.slice ah aa.length ai,.int .i64 a0_1,.slice aj ab.length ak,.slice av ac.length aw] 33,Bx g3 #[.slice aM ar.length aN,.int .i64 a1_1,.slice aO au.length aP,.slice bf ay.length bg] 33] w')
    case atStart=>exact ⟨(0),tx_,H',⟨Nat.le_refl _⟩,st.en⟩
    case round =>
     clear H' st cl;obtain ⟨aJ,rfl,HA,HK2,st⟩:=hrel;have cl:=cl_ st
     cases gk with
     |zero=>exact absurd HA.out (by simp [laws_sameDesk.l0])
     |succ k2 =>
      have H:=HA.out;clear HA;simp only [laws_sameDesk.l0] at H;replace H:=it_ H;rcases H with ⟨bv,H⟩|⟨bv,H⟩
      ·
       replace H:=in_ H;obtain ⟨bD,H⟩:=H;replace H:=in_ H;obtain ⟨b7,H⟩:=H;obtain ⟨bF,A_38,H⟩:=bnd_ H;rcases bx_ bF with rfl|rfl
       ·
        replace H:=bt_ H;have H':=A_ H;clear H;(try go_wp2);(all_goals ((try clear ix_);obtain ⟨p_,q_,ad_,bh,bi,bj,bk,e_,aB,aC,aD,l0_,C0_,l2_,C2_⟩:=a2_ (at_T30 (gC_ s0 k30 av ac) aJ);replace st:=st.c C0_ l0_;replace st:=st.c C2_ l2_;have ix915:=ix3_ Tryz.underlying31 e_ p_ q_ (c:=aw);clear e_;obtain ⟨p_,q_,ad_,bl,bm,bn,bo,e_,aE,aF,aG,l0_,C0_,l2_,C2_⟩:=a2_ (at_T30 (gC_ s0 k30 bf ay) aJ);replace st:=st.c C0_ l0_;replace st:=st.c C2_ l2_;have ix916:=ix3_ Tryz.underlying31 e_ p_ q_ (c:=bg);clear e_;refine rg_ st [] ?_;clear st cl;intro w_ st hs;have cl:=cl_ st;refine with_tabW laws_sameDesk.tab6 laws_sameDesk.bits6 (fun HT_ HW_=>?_);refine pv_ 0 ?_;refine pv_ 2 ?_;refine pv_ 5 ?_;refine pv_ 7 ?_;refine tu_ 1 ?_ (hy:=by intro w' s_;have cl:=cl_ s_;have y915_0:=cb_ s_ aB;have y915_1:=cb_ s_ aC;have y915_2:=cb_ s_ aD;have y916_0:=cb_ s_ aE;have y916_1:=cb_ s_ aF;have y916_2:=cb_ s_ aG;go_simp;first|with_reducible rfl|(rw [if_neg (by omega)];done));refine tu_ 6 ?_ (hy:=by intro w' s_;have cl:=cl_ s_;have y915_0:=cb_ s_ aB;have y915_1:=cb_ s_ aC;have y915_2:=cb_ s_ aD;have y916_0:=cb_ s_ aE;have y916_1:=cb_ s_ aF;have y916_2:=cb_ s_ aG;go_simp;first|with_reducible rfl|(rw [if_neg (by omega)];done));refine pv_ 3 ?_;refine pv_ 8 ?_;refine tu_ 4 ?_ (hy:=by intro w' s_;have cl:=cl_ s_;have y915_0:=cb_ s_ aB;have y915_1:=cb_ s_ aC;have y915_2:=cb_ s_ aD;have y916_0:=cb_ s_ aE;have y916_1:=cb_ s_ aF;have y916_2:=cb_ s_ aG;go_simp;first|with_reducible rfl|(rw [if_neg (by omega)];done));refine tu_ 9 ?_ (hy:=by intro w' s_;have cl:=cl_ s_;have y915_0:=cb_ s_ aB;have y915_1:=cb_ s_ aC;have y915_2:=cb_ s_ aD;have y916_0:=cb_ s_ aE;have y916_1:=cb_ s_ aF;have y916_2:=cb_ s_ aG;go_simp;first|with_reducible rfl|(rw [if_neg (by omega)];done));refine ov_ 10 (fun K hK=>?_);refine ca2_ (some 38) Tryz.func34 _ (laws_samePlace.calls k2 bh bi _ _ bj bk _ bl bm _ _ bn bo _ _ _ (gt_ st) (gt_ st) (gt_ st) (gt_ st) (gt_ st) (gt_ st) (gt_ st) (gt_ st) A_38.out) ?_;rintro e w_ ⟨rfl,hb⟩;refine ⟨_,rfl,?_⟩;replace st:=st.ev hb;clear cl hb;have cl:=cl_ st;refine hK.out _ _ st.en (fun hs=>?_);clear hK K;refine nr_ 38 ?_;refine pv_ 11 ?_;refine done_ (done_of HT_.out (by kernel_rfl)) ?_;clear ix915 ix916;all_goals (try go_wp2)))
        go_roundg k2
        case measure=>have:=HJ3.out;have:=HK2.out;omega
        case rel=>exact ⟨(wrap64 (aJ+1)),tx_,H',⟨by have:=HJ3.out;have:=HK2.out;omega⟩,st.en⟩
       ·
        replace H:=bf_ H;obtain rfl:=Option.some.inj H;(try go_wp2);(all_goals ((try clear ix_);obtain ⟨p_,q_,ad_,bh,bi,bj,bk,e_,aB,aC,aD,l0_,C0_,l2_,C2_⟩:=a2_ (at_T30 (gC_ s0 k30 av ac) aJ);replace st:=st.c C0_ l0_;replace st:=st.c C2_ l2_;have ix915:=ix3_ Tryz.underlying31 e_ p_ q_ (c:=aw);clear e_;obtain ⟨p_,q_,ad_,bl,bm,bn,bo,e_,aE,aF,aG,l0_,C0_,l2_,C2_⟩:=a2_ (at_T30 (gC_ s0 k30 bf ay) aJ);replace st:=st.c C0_ l0_;replace st:=st.c C2_ l2_;have ix916:=ix3_ Tryz.underlying31 e_ p_ q_ (c:=bg);clear e_;refine rg_ st [] ?_;clear st cl;intro w_ st hs;have cl:=cl_ st;refine with_tabW laws_sameDesk.tab6 laws_sameDesk.bits6 (fun HT_ HW_=>?_);refine pv_ 0 ?_;refine pv_ 2 ?_;refine pv_ 5 ?_;refine pv_ 7 ?_;refine tu_ 1 ?_ (hy:=by intro w' s_;have cl:=cl_ s_;have y915_0:=cb_ s_ aB;have y915_1:=cb_ s_ aC;have y915_2:=cb_ s_ aD;have y916_0:=cb_ s_ aE;have y916_1:=cb_ s_ aF;have y916_2:=cb_ s_ aG;go_simp;first|with_reducible rfl|(rw [if_neg (by omega)];done));refine tu_ 6 ?_ (hy:=by intro w' s_;have cl:=cl_ s_;have y915_0:=cb_ s_ aB;have y915_1:=cb_ s_ aC;have y915_2:=cb_ s_ aD;have y916_0:=cb_ s_ aE;have y916_1:=cb_ s_ aF;have y916_2:=cb_ s_ aG;go_simp;first|with_reducible rfl|(rw [if_neg (by omega)];done));refine pv_ 3 ?_;refine pv_ 8 ?_;refine tu_ 4 ?_ (hy:=by intro w' s_;have cl:=cl_ s_;have y915_0:=cb_ s_ aB;have y915_1:=cb_ s_ aC;have y915_2:=cb_ s_ aD;have y916_0:=cb_ s_ aE;have y916_1:=cb_ s_ aF;have y916_2:=cb_ s_ aG;go_simp;first|with_reducible rfl|(rw [if_neg (by omega)];done));refine tu_ 9 ?_ (hy:=by intro w' s_;have cl:=cl_ s_;have y915_0:=cb_ s_ aB;have y915_1:=cb_ s_ aC;have y915_2:=cb_ s_ aD;have y916_0:=cb_ s_ aE;have y916_1:=cb_ s_ aF;have y916_2:=cb_ s_ aG;go_simp;first|with_reducible rfl|(rw [if_neg (by omega)];done));refine ov_ 10 (fun K hK=>?_);refine ca2_ (some 38) Tryz.func34 _ (laws_samePlace.calls k2 bh bi _ _ bj bk _ bl bm _ _ bn bo _ _ _ (gt_ st) (gt_ st) (gt_ st) (gt_ st) (gt_ st) (gt_ st) (gt_ st) (gt_ st) A_38.out) ?_;rintro e w_ ⟨rfl,hb⟩;refine ⟨_,rfl,?_⟩;replace st:=st.ev hb;clear cl hb;have cl:=cl_ st;refine hK.out _ _ st.en (fun hs=>?_);clear hK K;refine nr_ 38 ?_;refine pv_ 11 ?_;refine done_ (done_of HT_.out (by kernel_rfl)) ?_;clear ix915 ix916;all_goals (try go_wp2)));go_ret;exact ⟨tw_,st.b⟩
      ·
       obtain rfl:=Option.some.inj H;go_wp2;go_ret;exact ⟨tw_,st.b⟩
def laws_alive.f (k:Nat)  : Option (Bool):=(impl_UrnOk.f k (([1]:List Int))).bind fun bH=>(if bH=true then ((impl_UrnOk.f k (([]:List Int))).bind fun bM=>(some (!bM))) else (some false))
theorem laws_alive.mono:∀k,LeO (laws_alive.f k) (laws_alive.f (k+1)):=by
 intro  k;unfold laws_alive.f;repeat' (with_reducible first|exact impl_UrnOk.mono _ _|exact mr_|exact mn_|refine mi_ ?_ ?_|refine mb_ ?_ (fun _=>?_))
theorem laws_alive.z0 {P_:Prop} (h_:P_:=by go_wp2_with (first|((with_reducible refine gd_ 1 ?_);refine nw_ (Kd.int .i64) 3 (([1]:List Int):List Int) [.int .i64 1] st ?_;clear st cl;intro B1_0 d1_0 w_ st;have cl:=cl_ st)|((with_reducible refine gc_ 35 ?_);refine ca_ (some 2) Tryz.func35 _ (impl_UrnOk.calls k B1_0 d1_0 _ _ _ (gt_ st) (gt_ st) A_2.out) ?_;rintro e w_ ⟨rfl,hb⟩;refine ⟨_,rfl,?_⟩;replace hb:=hb.below;replace st:=st.ev hb;clear cl hb;have cl:=cl_ st)|((with_reducible refine gd_ 4 ?_);refine gate_guard (by rfl) ?_;dsimp only;refine nw_ (Kd.int .i64) 3 (([]:List Int):List Int) [] st ?_;clear st cl;intro B4_0 d4_0 w_ st;have cl:=cl_ st)|((with_reducible refine gc_ 35 ?_);refine gate_guard (by rfl) ?_;dsimp only;refine ca_ (some 5) Tryz.func35 _ (impl_UrnOk.calls k B4_0 d4_0 _ _ _ (gt_ st) (gt_ st) A_5.out) ?_;rintro e w_ ⟨rfl,hb⟩;refine ⟨_,rfl,?_⟩;replace hb:=hb.below;replace st:=st.ev hb;clear cl hb;have cl:=cl_ st));(go_ret;exact ⟨tw_,st.b⟩)):P_:=h_
theorem laws_alive.calls (k:Nat)  (r:Bool) (w:World) (h:laws_alive.f k=some r) :
  Calls Tryz.prog 15 #[] w fun e w'=>e=.returned (.bool r)∧Below w.heap.size w w':=by
 have st:=ST.nil w;have s0:=st;have cl:=cl_ st;have H:=h;clear h;unfold laws_alive.f at H;go_enter Tryz.func15,Tryz.ntmps15;obtain ⟨bH,A_2,H⟩:=bnd_ H;rcases bx_ bH with rfl|rfl
 ·
  replace H:=bt_ H;obtain ⟨bM,A_5,H⟩:=bnd_ H;obtain rfl:=Option.some.inj H;exact laws_alive.z0
 ·
  replace H:=bf_ H;obtain rfl:=Option.some.inj H;exact laws_alive.z0
end Go.Proofs.YtabknkhhlbanoaaGreatDoor.MFnReadJournal
