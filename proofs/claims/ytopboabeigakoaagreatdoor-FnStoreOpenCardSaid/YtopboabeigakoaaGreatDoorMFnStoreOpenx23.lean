/- For the law FnStoreOpen: walks of the functions that it reaches: each call returns what the plain function beside it tells. The conditions stand in each statement. -/
import Derived.Test.YtopboabeigakoaaGreatDoorV
import Derived.Test.YtopboabeigakoaaGreatDoorMFnStoreOpenx0
import Derived.Test.YtopboabeigakoaaGreatDoorMFnStoreOpenx5
import Derived.Test.YtopboabeigakoaaGreatDoorMFnStoreOpenx6
import Derived.Test.YtopboabeigakoaaGreatDoorMFnStoreOpenx9
import Derived.Test.YtopboabeigakoaaGreatDoorMFnStoreOpenx18
import Derived.Test.YtopboabeigakoaaGreatDoorMFnStoreOpenx22
namespace Go.Proofs.YtopboabeigakoaaGreatDoor.MFnStoreOpen
open Go.RowKit Go.Proofs.YtopboabeigakoaaGreatDoorW.PrintWords Go.Proofs.YtopboabeigakoaaGreatDoorW.PrintLast Go.Proofs.YtopboabeigakoaaGreatDoorW.PrintMore
attribute [local go_sem] max2_int min2_int max_two min_two max_three min_three max_four min_four   -- for this text's walks alone
set_option linter.unusedVariables false
set_option linter.unusedSimpArgs false
set_option maxHeartbeats 8000000
set_option maxRecDepth 100000
def impl_StoreSync.f (k:Nat) (a0_0:ByteArray) (a0_1:ByteArray) (a0_2:Int):Option (ByteArray×ByteArray×Int×Bool):=(impl_StoreOk.f k a0_0 a0_1 a0_2).bind fun au=>(if au=true then (some (a0_0,a0_1,(a0_1.size:Int),true)) else (some ((⟨#[]⟩:ByteArray),(⟨#[]⟩:ByteArray),0,false)))
theorem impl_StoreSync.z0 {P_:Prop} (h_:P_:=by go_wp2_with (first|((with_reducible refine gate_dst (N:=1) rfl ?_);refine al_ st ?_;clear st cl;intro g1 w_ st;have cl:=cl_ st)|((with_reducible refine gate_dst (N:=2) rfl ?_);refine al_ st ?_;clear st cl;intro g2 w_ st;have cl:=cl_ st)|((with_reducible refine gate_callee (f:=15) rfl ?_);refine ca_ (some 5) Tryz.func15 _ (impl_StoreOk.calls k _ _ _ _ _ (GWb.below HG.out st.b) A_5.out) ?_;rintro e w_ ⟨rfl,hb⟩;refine ⟨_,rfl,?_⟩;replace st:=st.ev hb;clear cl hb;have cl:=cl_ st)|((with_reducible refine gate_store (p:=11) rfl ?_);refine so1_ st ?_;clear st cl;intro w_ st;have cl:=cl_ st)|((with_reducible refine gate_store (p:=2) rfl ?_);refine so3_ st ?_;clear st cl;intro w_ st;have cl:=cl_ st));(refine bodyPost_ret (rct_ st Tryz.underlying24) rfl ?_;exact ⟨tw_,st.b⟩)):P_:=h_
theorem impl_StoreSync.calls (k:Nat) (a0_0:ByteArray) (a0_1:ByteArray) (a0_2:Int) (r1:ByteArray) (r2:ByteArray) (r3:Int) (r4:Bool) (w:World) (hG:GWb w) (h:impl_StoreSync.f k a0_0 a0_1 a0_2=some (r1,r2,r3,r4)) :
  Calls Tryz.prog 32 #[.agg #[.string a0_0,.string a0_1,.int .i64 a0_2]] w fun e w'=>e=.returned (.tuple #[.agg #[.string r1,.string r2,.int .i64 r3],.bool r4])∧Below w.heap.size w w':=by
 have HG:=A_ hG;clear hG;have hu24:=Tryz.underlying24;have st:=ST.nil w;have s0:=st;have cl:=cl_ st;have H:=h;clear h;unfold impl_StoreSync.f at H;go_enter Tryz.func32,Tryz.ntmps32;obtain ⟨au,A_5,H⟩:=bnd_ H;rcases bx_ au with rfl|rfl
 ·
  replace H:=bt_ H;obtain ⟨rfl,rfl,rfl,rfl⟩:=sj4_ H;exact impl_StoreSync.z0
 ·
  replace H:=bf_ H;obtain ⟨rfl,rfl,rfl,rfl⟩:=sj4_ H;exact impl_StoreSync.z0
def laws_FnStoreOpen.j0:Nat→Bool→Bool→ByteArray→ByteArray→Int→List Int→Int→List Int→List (S35)→Option (Bool)
 |0,_,_,_,_,_,_,_,_,_=>none
 |k+1,x5,x39,ag,ah,ai,ac,ad,ae,af=>if x39=true then (some false) else (if x5=true then ((impl_StoreMend.f k ag ah ai).bind fun am=>((impl_StoreOpen.f k am.1 am.2.1 am.2.2.1).bind fun aj=>((impl_StoreSync.f k ag ah ai).bind fun an=>((impl_StoreOpen.f k an.1 an.2.1 an.2.2.1).bind fun ak=>((impl_DeskOk.f k ac ad ae af).bind fun av=>(if av=true then (if am.2.2.2=true then (if aj.2.2.2.2=true then (if an.2.2.2=true then (if ak.2.2.2.2=true then ((laws_sameDesk.f k aj.1 aj.2.1 aj.2.2.1 aj.2.2.2.1 ac ad ae af).bind fun aw=>(if aw=true then ((laws_sameDesk.f k ak.1 ak.2.1 ak.2.2.1 ak.2.2.2.1 ac ad ae af).bind fun aE=>(some aE)) else (some false))) else (some false)) else (some false)) else (some false)) else (some false)) else (some false))))))) else ((laws_noDesk.f k ac ad ae af).bind fun ax=>(if ax=true then ((impl_StoreOk.f k ag ah ai).bind fun ay=>(if ay=true then (some false) else ((laws_alive.f k).bind fun aF=>(some aF)))) else (some false))))
def laws_FnStoreOpen.f (k:Nat) (l0:List Int):Option (Bool):=if (l0.length:Int)>1048576 then (some true) else ((spec_DrawStoreOpen.f k l0).bind fun ab=>((impl_StoreOpen.f k ab.1 ab.2.1 ab.2.2).bind fun aa=>((spec_StoreOpen.f k ab.1 ab.2.1 ab.2.2).bind fun al=>((laws_sameDesk.f k aa.1 aa.2.1 aa.2.2.1 aa.2.2.2.1 al.1 al.2.1 al.2.2.1 al.2.2.2.1).bind fun az=>(if az=true then (laws_FnStoreOpen.j0 k aa.2.2.2.2 (aa.2.2.2.2 != al.2.2.2.2) ab.1 ab.2.1 ab.2.2 aa.1 aa.2.1 aa.2.2.1 aa.2.2.2.1) else (laws_FnStoreOpen.j0 k aa.2.2.2.2 true ab.1 ab.2.1 ab.2.2 aa.1 aa.2.1 aa.2.2.1 aa.2.2.2.1))))))
theorem laws_FnStoreOpen.z0 {P_:Prop} (h_:P_:=by go_wp2_with (first|((with_reducible refine gate_callee (f:=28) rfl ?_);refine ca_ (some 33) Tryz.func28 _ (laws_sameDesk.calls k B23_0 d23_0 _ _ B23_2 d23_2 _ B23_3 d23_3 _ B28_0 d28_0 _ _ B28_2 d28_2 _ B28_3 d28_3 _ _ _ (gt_ st) (gt_ st) (gt_ st) (gt_ st) (gt_ st) (gt_ st) (gt_ st) (gt_ st) (gt_ st) (gt_ st) (gt_ st) (gt_ st) A_33.out) ?_;rintro e w_ ⟨rfl,hb⟩;refine ⟨_,rfl,?_⟩;replace st:=st.ev hb;clear cl hb;have cl:=cl_ st));first|(go_meet;(case rel=>exact ⟨_,((aA != aK)),tx_,H',⟨by first|omega|exact Nat.le_refl _⟩,st.en⟩))|(go_meet;(case rel=>exact ⟨_,(true),tx_,H',⟨by first|omega|exact Nat.le_refl _⟩,st.en⟩))):P_:=h_
theorem laws_FnStoreOpen.z1 {P_:Prop} (h_:P_:=by go_wp2_with (first|((with_reducible refine gate_callee (f:=13) rfl ?_);refine ca_ (some 54) Tryz.func13 _ (impl_StoreMend.calls kj3 _ _ _ _ _ _ _ _ (GWb.below HG.out st.b) A_54.out) ?_;rintro e w_ ⟨rfl,hb⟩;refine ⟨_,rfl,?_⟩;replace st:=st.ev hb;clear cl hb;have cl:=cl_ st)|((with_reducible refine gate_dst (N:=8) rfl ?_);refine al_ st ?_;clear st cl;intro g8 w_ st;have cl:=cl_ st)|((with_reducible refine gate_store (p:=8) rfl ?_);refine so3_ st ?_;clear st cl;intro w_ st;have cl:=cl_ st)|((with_reducible refine gate_callee (f:=18) rfl ?_);refine ca_ (some 59) Tryz.func18 _ (impl_StoreOpen.calls kj3 _ _ _ _ _ _ _ _ _ (GWb.below HG.out st.b) A_59.out) ?_;rintro e w_ ⟨v0,v1,v2,rfl,h0,h1,h2,hb⟩;refine ⟨_,rfl,?_⟩;obtain ⟨B59_0,d59_0,rfl⟩:=Kd.R_slice h0;obtain ⟨B59_2,d59_2,rfl⟩:=Kd.R_slice h1;obtain ⟨B59_3,d59_3,rfl⟩:=Kd.V_slice h2;replace st:=st.p3 hb (st.mr h0) (st.mr h1) (st.mv h2);clear cl hb h0 h1 h2;have cl:=cl_ st)|((with_reducible refine gate_dst (N:=10) rfl ?_);refine al_ st ?_;clear st cl;intro g10 w_ st;have cl:=cl_ st)|((with_reducible refine gate_store (p:=10) rfl ?_);refine so4_ st ?_;clear st cl;intro w_ st;have cl:=cl_ st)|((with_reducible refine gate_callee (f:=32) rfl ?_);refine ca_ (some 64) Tryz.func32 _ (impl_StoreSync.calls kj3 _ _ _ _ _ _ _ _ (GWb.below HG.out st.b) A_64.out) ?_;rintro e w_ ⟨rfl,hb⟩;refine ⟨_,rfl,?_⟩;replace st:=st.ev hb;clear cl hb;have cl:=cl_ st)|((with_reducible refine gate_dst (N:=12) rfl ?_);refine al_ st ?_;clear st cl;intro g12 w_ st;have cl:=cl_ st)|((with_reducible refine gate_store (p:=12) rfl ?_);refine so3_ st ?_;clear st cl;intro w_ st;have cl:=cl_ st)|((with_reducible refine gate_callee (f:=18) rfl ?_);refine ca_ (some 69) Tryz.func18 _ (impl_StoreOpen.calls kj3 _ _ _ _ _ _ _ _ _ (GWb.below HG.out st.b) A_69.out) ?_;rintro e w_ ⟨v0,v1,v2,rfl,h0,h1,h2,hb⟩;refine ⟨_,rfl,?_⟩;obtain ⟨B69_0,d69_0,rfl⟩:=Kd.R_slice h0;obtain ⟨B69_2,d69_2,rfl⟩:=Kd.R_slice h1;obtain ⟨B69_3,d69_3,rfl⟩:=Kd.V_slice h2;replace st:=st.p3 hb (st.mr h0) (st.mr h1) (st.mv h2);clear cl hb h0 h1 h2;have cl:=cl_ st)|((with_reducible refine gate_dst (N:=14) rfl ?_);refine al_ st ?_;clear st cl;intro g14 w_ st;have cl:=cl_ st)|((with_reducible refine gate_store (p:=14) rfl ?_);refine so4_ st ?_;clear st cl;intro w_ st;have cl:=cl_ st)|((with_reducible refine gate_callee (f:=33) rfl ?_);refine ca_ (some 73) Tryz.func33 _ (impl_DeskOk.calls kj3 B23_0 d23_0 _ _ B23_2 d23_2 _ B23_3 d23_3 _ _ _ (gt_ st) (gt_ st) (gt_ st) (gt_ st) (gt_ st) (gt_ st) A_73.out) ?_;rintro e w_ ⟨rfl,hb⟩;refine ⟨_,rfl,?_⟩;replace st:=st.ev hb;clear cl hb;have cl:=cl_ st)|((with_reducible refine gate_callee (f:=28) rfl ?_);refine gate_guard (by rfl) ?_;dsimp only;refine ca_ (some 89) Tryz.func28 _ (laws_sameDesk.calls kj3 B59_0 d59_0 _ _ B59_2 d59_2 _ B59_3 d59_3 _ B23_0 d23_0 _ _ B23_2 d23_2 _ B23_3 d23_3 _ _ _ (gt_ st) (gt_ st) (gt_ st) (gt_ st) (gt_ st) (gt_ st) (gt_ st) (gt_ st) (gt_ st) (gt_ st) (gt_ st) (gt_ st) A_89.out) ?_;rintro e w_ ⟨rfl,hb⟩;refine ⟨_,rfl,?_⟩;replace st:=st.ev hb;clear cl hb;have cl:=cl_ st)|((with_reducible refine gate_callee (f:=28) rfl ?_);refine gate_guard (by rfl) ?_;dsimp only;refine ca_ (some 94) Tryz.func28 _ (laws_sameDesk.calls kj3 B69_0 d69_0 _ _ B69_2 d69_2 _ B69_3 d69_3 _ B23_0 d23_0 _ _ B23_2 d23_2 _ B23_3 d23_3 _ _ _ (gt_ st) (gt_ st) (gt_ st) (gt_ st) (gt_ st) (gt_ st) (gt_ st) (gt_ st) (gt_ st) (gt_ st) (gt_ st) (gt_ st) A_94.out) ?_;rintro e w_ ⟨rfl,hb⟩;refine ⟨_,rfl,?_⟩;replace st:=st.ev hb;clear cl hb;have cl:=cl_ st)|((with_reducible refine gate_callee (f:=31) rfl ?_);refine ca_ (some 43) Tryz.func31 _ (laws_noDesk.calls kj3 B23_0 d23_0 _ _ B23_2 d23_2 _ B23_3 d23_3 _ _ _ (gt_ st) (gt_ st) (gt_ st) (gt_ st) (gt_ st) (gt_ st) A_43.out) ?_;rintro e w_ ⟨rfl,hb⟩;refine ⟨_,rfl,?_⟩;replace st:=st.ev hb;clear cl hb;have cl:=cl_ st)|((with_reducible refine gate_callee (f:=15) rfl ?_);refine gate_guard (by rfl) ?_;dsimp only;refine ca_ (some 46) Tryz.func15 _ (impl_StoreOk.calls kj3 _ _ _ _ _ (GWb.below HG.out st.b) A_46.out) ?_;rintro e w_ ⟨rfl,hb⟩;refine ⟨_,rfl,?_⟩;replace st:=st.ev hb;clear cl hb;have cl:=cl_ st)|((with_reducible refine gate_callee (f:=16) rfl ?_);refine gate_guard (by rfl) ?_;dsimp only;refine ca_ (some 50) Tryz.func16 _ (laws_alive.calls kj3 _ _ A_50.out) ?_;rintro e w_ ⟨rfl,hb⟩;refine ⟨_,rfl,?_⟩;replace st:=st.ev hb;clear cl hb;have cl:=cl_ st));(go_ret;exact ⟨tw_,st.b⟩)):P_:=h_
theorem laws_FnStoreOpen.calls (k:Nat) (A0:Option Addr) (c0:Nat) (l0:List Int) (r:Bool) (w:World) (hr0:Kd.C (Kd.int .u8) w A0 l0.length l0) (hc0:l0.length≤c0) (hG:GWb w) (h:laws_FnStoreOpen.f k l0=some r) :
  Calls Tryz.prog 6 #[.slice A0 l0.length c0] w fun e w'=>e=.returned (.bool r)∧Below w.heap.size w w':=by
 have HG:=A_ hG;clear hG;have hu24:=Tryz.underlying24;have hu38:=Tryz.underlying38;have st:=(ST.nil w).c hr0 hc0;have s0:=st;have cl:=cl_ st;have H:=h;clear h;unfold laws_FnStoreOpen.f at H;go_enter Tryz.func6,Tryz.ntmps6;by_cases c2:(l0.length:Int)>1048576
 ·
  rw [if_pos c2] at H;have aQ:decide (1048576<(l0.length:Int))=true:=decide_eq_true c2;have aR:decide (1048576<l0.length)=true:=decide_eq_true (by omega);clear c2;obtain rfl:=Option.some.inj H;go_wp2;go_ret;exact ⟨tw_,st.b⟩
 ·
  rw [if_neg c2] at H;have aQ:decide (1048576<(l0.length:Int))=false:=decide_eq_false c2;have aR:decide (1048576<l0.length)=false:=decide_eq_false (by omega);clear c2;obtain ⟨⟨aG,aH,aI⟩,A_20,H⟩:=bnd_ H;(try dsimp only at H);obtain ⟨⟨ao,aJ,ap,aq,aA⟩,A_23,H⟩:=bnd_ H;(try dsimp only at H);obtain ⟨⟨aB,aL,aC,aD,aK⟩,A_28,H⟩:=bnd_ H;(try dsimp only at H);have HC4:=A_ H;clear H
  go_upto_region 6 with (first|((with_reducible refine gate_callee (f:=29) rfl ?_);refine ca_ (some 20) Tryz.func29 _ (spec_DrawStoreOpen.calls k A0 c0 _ _ _ _ _ (gt_ st) (gt_ st) A_20.out) ?_;rintro e w_ ⟨rfl,hb⟩;refine ⟨_,rfl,?_⟩;replace st:=st.ev hb;clear cl hb;have cl:=cl_ st)|((with_reducible refine gate_dst (N:=3) rfl ?_);refine al_ st ?_;clear st cl;intro g3 w_ st;have cl:=cl_ st)|((with_reducible refine gate_store (p:=3) rfl ?_);refine so3_ st ?_;clear st cl;intro w_ st;have cl:=cl_ st)|((with_reducible refine gate_callee (f:=18) rfl ?_);refine ca_ (some 23) Tryz.func18 _ (impl_StoreOpen.calls k _ _ _ _ _ _ _ _ _ (GWb.below HG.out st.b) A_23.out) ?_;rintro e w_ ⟨v0,v1,v2,rfl,h0,h1,h2,hb⟩;refine ⟨_,rfl,?_⟩;obtain ⟨B23_0,d23_0,rfl⟩:=Kd.R_slice h0;obtain ⟨B23_2,d23_2,rfl⟩:=Kd.R_slice h1;obtain ⟨B23_3,d23_3,rfl⟩:=Kd.V_slice h2;replace st:=st.p3 hb (st.mr h0) (st.mr h1) (st.mv h2);clear cl hb h0 h1 h2;have cl:=cl_ st)|((with_reducible refine gate_dst (N:=4) rfl ?_);refine al_ st ?_;clear st cl;intro g4 w_ st;have cl:=cl_ st)|((with_reducible refine gate_store (p:=4) rfl ?_);refine so4_ st ?_;clear st cl;intro w_ st;have cl:=cl_ st)|((with_reducible refine gate_callee (f:=30) rfl ?_);refine ca_ (some 28) Tryz.func30 _ (spec_StoreOpen.calls k _ _ _ _ _ _ _ _ _ A_28.out) ?_;rintro e w_ ⟨v0,v1,v2,rfl,h0,h1,h2,hb⟩;refine ⟨_,rfl,?_⟩;obtain ⟨B28_0,d28_0,rfl⟩:=Kd.R_slice h0;obtain ⟨B28_2,d28_2,rfl⟩:=Kd.R_slice h1;obtain ⟨B28_3,d28_3,rfl,_⟩:=Kd.Q_slice h2;replace st:=st.p3 hb (st.mr h0) (st.mr h1) (st.mq h2);clear cl hb h0 h1 h2;have cl:=cl_ st)|((with_reducible refine gate_dst (N:=6) rfl ?_);refine al_ st ?_;clear st cl;intro g6 w_ st;have cl:=cl_ st)|((with_reducible refine gate_store (p:=6) rfl ?_);refine so4_ st ?_;clear st cl;intro w_ st;have cl:=cl_ st))
  (try simp only [Act.put,sa_,sb_,sc_])
  go_cut [39] (fun bc wc=>∃(kq:Nat) (ar:Bool),bc=.bool ar∧Aside0 (laws_FnStoreOpen.j0 kq aA ar aG aH aI ao aJ ap aq=some r)∧Aside0 (kq≤k)∧ST w [AR (Kd.int .i64) 3 w.heap.size (.slice B23_0 ao.length d23_0) ao,AR (Kd.int .i64) 3 w.heap.size (.slice B23_2 ap.length d23_2) ap,AV k35 35 w.heap.size (.slice B23_3 aq.length d23_3) aq,AR (Kd.int .i64) 3 w.heap.size (.slice B28_0 aB.length d28_0) aB,AR (Kd.int .i64) 3 w.heap.size (.slice B28_2 aC.length d28_2) aC,AQ k35 35 w.heap.size (.slice B28_3 aD.length d28_3) aD] [Bx g3 #[.string aG,.string aH,.int .i64 aI] 24,Bx g4 #[.slice B23_0 ao.length d23_0,.int .i64 aJ,.slice B23_2 ap.length d23_2,.slice B23_3 aq.length d23_3] 38,Bx g6 #[.slice B28_0 aB.length d28_0,.int .i64 aL,.slice B28_2 aC.length d28_2,.slice B28_3 aD.length d28_3] 38] wc)
  case first =>
   have H:=HC4.out;clear HC4;obtain ⟨az,A_33,H⟩:=bnd_ H;rcases bx_ az with rfl|rfl
   ·
    replace H:=bt_ H;have H':=A_ H;clear H;exact laws_FnStoreOpen.z0
   ·
    replace H:=bf_ H;have H':=A_ H;clear H;exact laws_FnStoreOpen.z0
  case rest =>
   clear HC4 st cl;obtain ⟨kq,ar,rfl,HA,HJ3,st⟩:=hcut;have cl:=cl_ st
   cases kq with
   |zero=>exact absurd HA.out (by simp [laws_FnStoreOpen.j0])
   |succ kj3 =>
    have H:=HA.out;clear HA;simp only [laws_FnStoreOpen.j0] at H;rcases bx_ ar with rfl|rfl
    ·
     replace H:=bt_ H;obtain rfl:=Option.some.inj H;exact laws_FnStoreOpen.z1
    ·
     replace H:=bf_ H;rcases bx_ aA with rfl|rfl
     ·
      replace H:=bt_ H;obtain ⟨⟨aU,aV,aW,aM⟩,A_54,H⟩:=bnd_ H;(try dsimp only at H);obtain ⟨⟨aX,aY,aZ,a3,aN⟩,A_59,H⟩:=bnd_ H;(try dsimp only at H);obtain ⟨⟨a4,a5,a6,aO⟩,A_64,H⟩:=bnd_ H;(try dsimp only at H);obtain ⟨⟨a7,a8,a9,bb,aP⟩,A_69,H⟩:=bnd_ H;(try dsimp only at H);obtain ⟨av,A_73,H⟩:=bnd_ H;rcases bx_ av with rfl|rfl
      ·
       replace H:=bt_ H;rcases bx_ aM with rfl|rfl
       ·
        replace H:=bt_ H;rcases bx_ aN with rfl|rfl
        ·
         replace H:=bt_ H;rcases bx_ aO with rfl|rfl
         ·
          replace H:=bt_ H;rcases bx_ aP with rfl|rfl
          ·
           replace H:=bt_ H;obtain ⟨aw,A_89,H⟩:=bnd_ H;rcases bx_ aw with rfl|rfl
           ·
            replace H:=bt_ H;obtain ⟨aE,A_94,H⟩:=bnd_ H;obtain rfl:=Option.some.inj H;exact laws_FnStoreOpen.z1
           ·
            replace H:=bf_ H;obtain rfl:=Option.some.inj H;exact laws_FnStoreOpen.z1
          ·
           replace H:=bf_ H;obtain rfl:=Option.some.inj H;exact laws_FnStoreOpen.z1
         ·
          replace H:=bf_ H;obtain rfl:=Option.some.inj H;exact laws_FnStoreOpen.z1
        ·
         replace H:=bf_ H;obtain rfl:=Option.some.inj H;exact laws_FnStoreOpen.z1
       ·
        replace H:=bf_ H;obtain rfl:=Option.some.inj H;exact laws_FnStoreOpen.z1
      ·
       replace H:=bf_ H;obtain rfl:=Option.some.inj H;exact laws_FnStoreOpen.z1
     ·
      replace H:=bf_ H;obtain ⟨ax,A_43,H⟩:=bnd_ H;rcases bx_ ax with rfl|rfl
      ·
       replace H:=bt_ H;obtain ⟨ay,A_46,H⟩:=bnd_ H;rcases bx_ ay with rfl|rfl
       ·
        replace H:=bt_ H;obtain rfl:=Option.some.inj H;exact laws_FnStoreOpen.z1
       ·
        replace H:=bf_ H;obtain ⟨aF,A_50,H⟩:=bnd_ H;obtain rfl:=Option.some.inj H;exact laws_FnStoreOpen.z1
      ·
       replace H:=bf_ H;obtain rfl:=Option.some.inj H;exact laws_FnStoreOpen.z1
/-- THE ONE PURE STATEMENT of laws_FnStoreOpen: yours. -/
def laws_FnStoreOpen.Pure:Prop:=∀(l0:List Int),l0.length≤maxLen→l0.length*1≤140737488351232→(∀x ∈ l0,(Lit.int .u8 x).wf=true)→∃k,laws_FnStoreOpen.f k l0=some true
theorem laws_FnStoreOpen.walk (P:laws_FnStoreOpen.Pure) (a0:Option Addr) (len0 cap0:Nat) (z0:List Int) (w:World) (hG:GWb w) (w0:(a0=none∧len0=0∧cap0=0∧z0=[])∨∃x,a0=some x∧len0≤cap0∧cap0≤maxLen∧z0.length=cap0∧(∀i,i<z0.length→w.cell? (x.add i)=some (.int .u8 (z0.getD i 0)))∧∀n ∈ z0,(Lit.int .u8 n).wf=true) (y0:len0*1≤140737488351232) :
  Calls Tryz.prog 6 #[.slice a0 len0 cap0] w fun e w'=>e=.returned (.bool true)∧Below w.heap.size w w':=by
 obtain ⟨l0,rfl,hr0,hm0,hw0,hc0⟩:=ReadsInt.ofRowC w0;obtain ⟨k,h⟩:=P l0 hm0 y0 hw0;refine (laws_FnStoreOpen.calls k _ _ l0 true w (Kd.C_of_reads (d:=(0:Int)) (h1:=fun _=>rfl) hr0) hc0 hG h).mono ?_;rintro e w' ⟨rfl,hd⟩;exact ⟨rfl,hd⟩
end Go.Proofs.YtopboabeigakoaaGreatDoor.MFnStoreOpen
