/- For the law FnStoreSave: walks of the functions that it reaches: each call returns what the plain function beside it tells. The conditions stand in each statement. -/
import Derived.Test.YtopboabeigakoaaGreatDoorV
import Derived.Test.YtopboabeigakoaaGreatDoorMFnStoreSavex0
import Derived.Test.YtopboabeigakoaaGreatDoorMFnStoreSavex1
import Derived.Test.YtopboabeigakoaaGreatDoorMFnStoreSavex5
import Derived.Test.YtopboabeigakoaaGreatDoorMFnStoreSavex6
import Derived.Test.YtopboabeigakoaaGreatDoorMFnStoreSavex10
import Derived.Test.YtopboabeigakoaaGreatDoorMFnStoreSavex12
import Derived.Test.YtopboabeigakoaaGreatDoorMFnStoreSavex18
import Derived.Test.YtopboabeigakoaaGreatDoorMFnStoreSavex22
namespace Go.Proofs.YtopboabeigakoaaGreatDoor.MFnStoreSave
open Go.RowKit Go.Proofs.YtopboabeigakoaaGreatDoorW.PrintWords Go.Proofs.YtopboabeigakoaaGreatDoorW.PrintLast Go.Proofs.YtopboabeigakoaaGreatDoorW.PrintMore
attribute [local go_sem] max2_int min2_int max_two min_two max_three min_three max_four min_four   -- for this text's walks alone
set_option linter.unusedVariables false
set_option linter.unusedSimpArgs false
set_option maxHeartbeats 8000000
set_option maxRecDepth 100000
attribute [local go_sem high] eqA24
def impl_StoreSave.f (k:Nat) (a0_0:ByteArray) (a0_1:ByteArray) (a0_2:Int):Option (ByteArray×ByteArray×Int×Bool):=(impl_StoreOk.f k a0_0 a0_1 a0_2).bind fun aJ=>(if aJ=true then ((impl_opened.f k a0_0 a0_1 a0_2).bind fun ay=>((impl_PlaceText.f k ay.1 ay.2.1 ay.2.2.1).bind fun aV=>(some (aV,(⟨#[]⟩:ByteArray),0,true)))) else (some ((⟨#[]⟩:ByteArray),(⟨#[]⟩:ByteArray),0,false)))
theorem impl_StoreSave.z0 {P_:Prop} (h_:P_:=by go_wp2_with (first|((with_reducible refine gate_dst (N:=1) rfl ?_);refine al_ st ?_;clear st cl;intro g1 w_ st;have cl:=cl_ st)|((with_reducible refine gate_dst (N:=2) rfl ?_);refine al_ st ?_;clear st cl;intro g2 w_ st;have cl:=cl_ st)|((with_reducible refine gate_callee (f:=15) rfl ?_);refine ca_ (some 5) Tryz.func15 _ (impl_StoreOk.calls k _ _ _ _ _ (GWb.below HG.out st.b) A_5.out) ?_;rintro e w_ ⟨rfl,hb⟩;refine ⟨_,rfl,?_⟩;replace st:=st.ev hb;clear cl hb;have cl:=cl_ st)|((with_reducible refine gate_callee (f:=54) rfl ?_);refine ca_ (some 9) Tryz.func54 _ (impl_opened.calls k _ _ _ _ _ _ _ _ (GWb.below HG.out st.b) A_9.out) ?_;rintro e w_ ⟨v0,v1,v2,rfl,h0,h1,h2,hb⟩;refine ⟨_,rfl,?_⟩;obtain ⟨B9_0,d9_0,rfl⟩:=Kd.R_slice h0;obtain ⟨B9_2,d9_2,rfl⟩:=Kd.R_slice h1;obtain ⟨B9_3,d9_3,rfl⟩:=Kd.V_slice h2;replace st:=st.p3 hb (st.mr h0) (st.mr h1) (st.mv h2);clear cl hb h0 h1 h2;have cl:=cl_ st)|((with_reducible refine gate_callee (f:=56) rfl ?_);refine ca_ (some 11) Tryz.func56 _ (impl_PlaceText.calls k B9_0 d9_0 _ _ B9_2 d9_2 _ _ _ (gt_ st) (gt_ st) (gt_ st) (gt_ st) (GWb.below HG.out st.b) A_11.out) ?_;rintro e w_ ⟨rfl,hb⟩;refine ⟨_,rfl,?_⟩;replace st:=st.ev hb;clear cl hb;have cl:=cl_ st)|((with_reducible refine gate_store (p:=2) rfl ?_);refine so3_ st ?_;clear st cl;intro w_ st;have cl:=cl_ st));(refine bodyPost_ret (rct_ st Tryz.underlying24) rfl ?_;exact ⟨tw_,st.b⟩)):P_:=h_
theorem impl_StoreSave.calls (k:Nat) (a0_0:ByteArray) (a0_1:ByteArray) (a0_2:Int) (r1:ByteArray) (r2:ByteArray) (r3:Int) (r4:Bool) (w:World) (hG:GWb w) (h:impl_StoreSave.f k a0_0 a0_1 a0_2=some (r1,r2,r3,r4)) :
  Calls Tryz.prog 21 #[.agg #[.string a0_0,.string a0_1,.int .i64 a0_2]] w fun e w'=>e=.returned (.tuple #[.agg #[.string r1,.string r2,.int .i64 r3],.bool r4])∧Below w.heap.size w w':=by
 have HG:=A_ hG;clear hG;have hu24:=Tryz.underlying24;have hf38_0:∀(x0_ x1_ x2_ x3_:Value) (W_:World),(Instr.field 38 (.agg #[x0_,x1_,x2_,x3_]) 0).run Tryz.prog W_=.ok (.agg #[x0_,x1_,x2_]) W_:=by intros;first|rfl|kernel_rfl
 have st:=ST.nil w;have s0:=st;have cl:=cl_ st;have H:=h;clear h;unfold impl_StoreSave.f at H;go_enter Tryz.func21,Tryz.ntmps21;obtain ⟨aJ,A_5,H⟩:=bnd_ H;rcases bx_ aJ with rfl|rfl
 ·
  replace H:=bt_ H;obtain ⟨⟨bF,bG,bH,bI⟩,A_9,H⟩:=bnd_ H;(try dsimp only at H);obtain ⟨aV,A_11,H⟩:=bnd_ H;obtain ⟨rfl,rfl,rfl,rfl⟩:=sj4_ H;exact impl_StoreSave.z0
 ·
  replace H:=bf_ H;obtain ⟨rfl,rfl,rfl,rfl⟩:=sj4_ H;exact impl_StoreSave.z0
def spec_StoreSave.f (k:Nat) (a0_0:ByteArray) (a0_1:ByteArray) (a0_2:Int):Option (ByteArray×ByteArray×Int×Bool):=(spec_StoreOpen.f k a0_0 a0_1 a0_2).bind fun ao=>(if ao.2.2.2.2=true then ((spec_PlaceText.f k ao.1 ao.2.1 ao.2.2.1).bind fun aW=>(some (aW,(⟨#[]⟩:ByteArray),0,true))) else (some ((⟨#[]⟩:ByteArray),(⟨#[]⟩:ByteArray),0,false)))
theorem spec_StoreSave.z0 {P_:Prop} (h_:P_:=by go_wp2_with (first|((with_reducible refine gate_dst (N:=1) rfl ?_);refine al_ st ?_;clear st cl;intro g1 w_ st;have cl:=cl_ st)|((with_reducible refine gate_dst (N:=2) rfl ?_);refine al_ st ?_;clear st cl;intro g2 w_ st;have cl:=cl_ st)|((with_reducible refine gate_callee (f:=30) rfl ?_);refine ca_ (some 8) Tryz.func30 _ (spec_StoreOpen.calls k _ _ _ _ _ _ _ _ _ A_8.out) ?_;rintro e w_ ⟨v0,v1,v2,rfl,h0,h1,h2,hb⟩;refine ⟨_,rfl,?_⟩;obtain ⟨B8_0,d8_0,rfl⟩:=Kd.R_slice h0;obtain ⟨B8_2,d8_2,rfl⟩:=Kd.R_slice h1;obtain ⟨B8_3,d8_3,rfl,_⟩:=Kd.Q_slice h2;replace st:=st.p3 hb (st.mr h0) (st.mr h1) (st.mq h2);clear cl hb h0 h1 h2;have cl:=cl_ st)|((with_reducible refine gate_dst (N:=4) rfl ?_);refine al_ st ?_;clear st cl;intro g4 w_ st;have cl:=cl_ st)|((with_reducible refine gate_store (p:=4) rfl ?_);refine so4_ st ?_;clear st cl;intro w_ st;have cl:=cl_ st)|((with_reducible refine gate_callee (f:=57) rfl ?_);refine ca_ (some 16) Tryz.func57 _ (spec_PlaceText.calls k B8_0 d8_0 _ _ B8_2 d8_2 _ _ _ (gt_ st) (gt_ st) (gt_ st) (gt_ st) A_16.out) ?_;rintro e w_ ⟨rfl,hb⟩;refine ⟨_,rfl,?_⟩;replace st:=st.ev hb;clear cl hb;have cl:=cl_ st)|((with_reducible refine gate_store (p:=2) rfl ?_);refine so3_ st ?_;clear st cl;intro w_ st;have cl:=cl_ st));(refine bodyPost_ret (rct_ st Tryz.underlying24) rfl ?_;exact ⟨tw_,st.b⟩)):P_:=h_
theorem spec_StoreSave.calls (k:Nat) (a0_0:ByteArray) (a0_1:ByteArray) (a0_2:Int) (r1:ByteArray) (r2:ByteArray) (r3:Int) (r4:Bool) (w:World) (h:spec_StoreSave.f k a0_0 a0_1 a0_2=some (r1,r2,r3,r4)) :
  Calls Tryz.prog 22 #[.agg #[.string a0_0,.string a0_1,.int .i64 a0_2]] w fun e w'=>e=.returned (.tuple #[.agg #[.string r1,.string r2,.int .i64 r3],.bool r4])∧Below w.heap.size w w':=by
 have hu24:=Tryz.underlying24;have hu38:=Tryz.underlying38;have hu35:=Tryz.underlying35;have st:=ST.nil w;have s0:=st;have cl:=cl_ st;have H:=h;clear h;unfold spec_StoreSave.f at H;go_enter Tryz.func22,Tryz.ntmps22;obtain ⟨⟨bJ,bK,bL,bM,bm⟩,A_8,H⟩:=bnd_ H;(try dsimp only at H);rcases bx_ bm with rfl|rfl
 ·
  replace H:=bt_ H;obtain ⟨aW,A_16,H⟩:=bnd_ H;obtain ⟨rfl,rfl,rfl,rfl⟩:=sj4_ H;exact spec_StoreSave.z0
 ·
  replace H:=bf_ H;obtain ⟨rfl,rfl,rfl,rfl⟩:=sj4_ H;exact spec_StoreSave.z0
def impl_StoreCrash.f (k:Nat) (a0_0:ByteArray) (a0_1:ByteArray) (a0_2:Int) (a1:Int):Option (ByteArray×ByteArray×Int×Bool):=(impl_StoreOk.f k a0_0 a0_1 a0_2).bind fun aK=>(if aK=true then (if a1<a0_2 then (some ((⟨#[]⟩:ByteArray),(⟨#[]⟩:ByteArray),0,false)) else (if a1>(a0_1.size:Int) then (some ((⟨#[]⟩:ByteArray),(⟨#[]⟩:ByteArray),0,false)) else (if 0≤a1 then (if a1≤(a0_1.size:Int) then (some (a0_0,a0_1.extract 0 (a1:Int).toNat,a0_2,true)) else (none)) else (none)))) else (some ((⟨#[]⟩:ByteArray),(⟨#[]⟩:ByteArray),0,false)))
theorem impl_StoreCrash.z0 {P_:Prop} (h_:P_:=by go_wp2_with (first|((with_reducible refine gate_dst (N:=2) rfl ?_);refine al_ st ?_;clear st cl;intro g2 w_ st;have cl:=cl_ st)|((with_reducible refine gate_dst (N:=4) rfl ?_);refine al_ st ?_;clear st cl;intro g4 w_ st;have cl:=cl_ st)|((with_reducible refine gate_callee (f:=15) rfl ?_);refine ca_ (some 7) Tryz.func15 _ (impl_StoreOk.calls k _ _ _ _ _ (GWb.below HG.out st.b) A_7.out) ?_;rintro e w_ ⟨rfl,hb⟩;refine ⟨_,rfl,?_⟩;replace st:=st.ev hb;clear cl hb;have cl:=cl_ st)|((with_reducible refine gate_store (p:=4) rfl ?_);refine so3_ st ?_;clear st cl;intro w_ st;have cl:=cl_ st)|((with_reducible refine gate_store (p:=27) rfl ?_);refine so1_ st ?_;clear st cl;intro w_ st;have cl:=cl_ st));(refine bodyPost_ret (rct_ st Tryz.underlying24) rfl ?_;exact ⟨tw_,st.b⟩)):P_:=h_
theorem impl_StoreCrash.calls (k:Nat) (a0_0:ByteArray) (a0_1:ByteArray) (a0_2:Int) (a1:Int) (r1:ByteArray) (r2:ByteArray) (r3:Int) (r4:Bool) (w:World) (hG:GWb w) (h:impl_StoreCrash.f k a0_0 a0_1 a0_2 a1=some (r1,r2,r3,r4)) :
  Calls Tryz.prog 23 #[.agg #[.string a0_0,.string a0_1,.int .i64 a0_2],.int .i64 a1] w fun e w'=>e=.returned (.tuple #[.agg #[.string r1,.string r2,.int .i64 r3],.bool r4])∧Below w.heap.size w w':=by
 have HG:=A_ hG;clear hG;have hu24:=Tryz.underlying24;have st:=ST.nil w;have s0:=st;have cl:=cl_ st;have H:=h;clear h;unfold impl_StoreCrash.f at H;go_enter Tryz.func23,Tryz.ntmps23;obtain ⟨aK,A_7,H⟩:=bnd_ H;rcases bx_ aK with rfl|rfl
 ·
  replace H:=bt_ H;replace H:=it_ H;rcases H with ⟨aI,H⟩|⟨aI,H⟩
  ·
   obtain ⟨rfl,rfl,rfl,rfl⟩:=sj4_ H;exact impl_StoreCrash.z0
  ·
   replace H:=ig_ H;rcases H with ⟨a8,H⟩|⟨a8,H⟩
   ·
    obtain ⟨rfl,rfl,rfl,rfl⟩:=sj4_ H;exact impl_StoreCrash.z0
   ·
    replace H:=i0_ H;obtain ⟨c5,H⟩:=H;have az:=eq_true c5;have bZ:decide (0≤a1)=true:=decide_eq_true c5;clear c5;replace H:=i0_ H;obtain ⟨c6,H⟩:=H;have a9:=eq_true c6;have bn:decide (a1≤(a0_1.size:Int))=true:=decide_eq_true c6;clear c6;obtain ⟨rfl,rfl,rfl,rfl⟩:=sj4_ H;exact impl_StoreCrash.z0
 ·
  replace H:=bf_ H;obtain ⟨rfl,rfl,rfl,rfl⟩:=sj4_ H;exact impl_StoreCrash.z0
def laws_sameInts.l0:Nat→List Int→List Int→Int→Option (Bool)
 |0,_,_,_=>none
 |k+1,x0,x1,x5=>if x5<(x0.length:Int) then (if 0≤x5 then (if x5<(x1.length:Int) then (if (rd x0 x5)=(rd x1 x5) then (laws_sameInts.l0 k x0 x1 (wrap64 (x5+1))) else (some false)) else (none)) else (none)) else (some true)
def laws_sameInts.f (k:Nat) (l0:List Int) (l1:List Int):Option (Bool):=if (l0.length:Int)=(l1.length:Int) then (laws_sameInts.l0 k l0 l1 0) else (some false)
theorem laws_sameInts.calls (k:Nat) (A0:Option Addr) (c0:Nat) (l0:List Int) (A1:Option Addr) (c1:Nat) (l1:List Int) (r:Bool) (w:World) (hr0:Kd.C (Kd.int .i64) w A0 l0.length l0) (hc0:l0.length≤c0) (hr1:Kd.C (Kd.int .i64) w A1 l1.length l1) (hc1:l1.length≤c1) (h:laws_sameInts.f k l0 l1=some r) :
  Calls Tryz.prog 58 #[.slice A0 l0.length c0,.slice A1 l1.length c1] w fun e w'=>e=.returned (.bool r)∧Drawn0 w w':=by
 have HR0:=A_ hr0;have HC0:=A_ hc0;clear hr0 hc0;have HR1:=A_ hr1;have HC1:=A_ hc1;clear hr1 hc1;have H:(if (l0.length:Int)=(l1.length:Int) then (laws_sameInts.l0 k l0 l1 0) else (some false))=some r:=h;clear h;by_cases c3:(l0.length:Int)=(l1.length:Int)
 ·
  rw [if_pos c3] at H;have aI:((l0.length:Int) == (l1.length:Int))=true:=beq_iff_eq.mpr c3;have aU:((l0.length:Int) != (l1.length:Int))=false:=bne_eq_false_iff_eq.mpr c3;have bo:(l0.length == l1.length)=true:=by first|simpa using c3|(simp at c3 ⊢;omega)
  clear c3;have H':=A_ H;clear H;go_enter Tryz.func58,Tryz.ntmps58;go_wp2;repeat (go_quiet (fail);try go_wp2)
  go_loopg [5] k (fun kq v5 w'=>∃(ad:Int),v5=.int .i64 ad∧Aside0 (laws_sameInts.l0 kq l0 l1 ad=some r)∧Aside0 (kq≤k)∧Drawn0 w w')
  case atStart=>exact ⟨(0),tx_,H',⟨Nat.le_refl _⟩,dz_⟩
  case round =>
   clear H';(try clear c3);(try clear aI);(try clear aU);(try clear bo);obtain ⟨ad,rfl,HA,HK1,⟨m1,rfl⟩⟩:=hrel
   cases gk with
   |zero=>exact absurd HA.out (by simp [laws_sameInts.l0])
   |succ k1 =>
    have H:=HA.out;clear HA;simp only [laws_sameInts.l0] at H;replace H:=it_ H;rcases H with ⟨a8,H⟩|⟨a8,H⟩
    ·
     replace H:=in_ H;obtain ⟨az,H⟩:=H;replace H:=in_ H;obtain ⟨a9,H⟩:=H;by_cases c7:(rd l0 ad)=(rd l1 ad)
     ·
      rw [if_pos c7] at H;have bb:((rd l0 ad) == (rd l1 ad))=true:=beq_iff_eq.mpr c7;have bc:((rd l0 ad) != (rd l1 ad))=false:=bne_eq_false_iff_eq.mpr c7;clear c7;have H':=A_ H;clear H;obtain ⟨p1034,q1034,ad1034,e1034,aL⟩:=a2_ (Kd.at_int HR0.out ad);cases e1034;obtain ⟨p1035,q1035,ad1035,e1035,aM⟩:=a2_ (Kd.at_int HR1.out ad);cases e1035;go_wp2;repeat (go_quiet (fail);try go_wp2)
      go_roundg k1
      case measure=>have:=HK1.out;omega
      case rel=>exact ⟨(wrap64 (ad+1)),tx_,H',⟨by have:=HK1.out;omega⟩,dz_⟩
     ·
      rw [if_neg c7] at H;have bb:((rd l0 ad) == (rd l1 ad))=false:=beq_eq_false_iff_ne.mpr c7;have bc:((rd l0 ad) != (rd l1 ad))=true:=bne_iff_ne.mpr c7;obtain rfl:=Option.some.inj H;obtain ⟨p1034,q1034,ad1034,e1034,aL⟩:=a2_ (Kd.at_int HR0.out ad);cases e1034;obtain ⟨p1035,q1035,ad1035,e1035,aM⟩:=a2_ (Kd.at_int HR1.out ad);cases e1035;go_wp2;repeat (go_quiet (fail);try go_wp2)
      go_ret;exact ⟨tx_,dz_⟩
    ·
     obtain rfl:=Option.some.inj H;go_wp2;repeat (go_quiet (fail);try go_wp2)
     go_ret;exact ⟨tx_,dz_⟩
 ·
  rw [if_neg c3] at H;have aI:((l0.length:Int) == (l1.length:Int))=false:=beq_eq_false_iff_ne.mpr c3;have aU:((l0.length:Int) != (l1.length:Int))=true:=bne_iff_ne.mpr c3;have bo:(l0.length == l1.length)=false:=by first|simpa using c3|(simp at c3 ⊢;omega)
  obtain rfl:=Option.some.inj H;go_enter Tryz.func58,Tryz.ntmps58;go_wp2;repeat (go_quiet (fail);try go_wp2)
  go_ret;exact ⟨tx_,dz_⟩
def laws_samePlace.f (k:Nat) (aA:List Int) (a0_1:Int) (aB:List Int) (aC:List Int) (a1_1:Int) (aD:List Int):Option (Bool):=(laws_sameInts.f k aA aC).bind fun aN=>(if aN=true then (if a0_1=a1_1 then ((laws_sameInts.f k aB aD).bind fun aX=>(some aX)) else (some false)) else (some false))
theorem laws_samePlace.z0 {P_:Prop} (h_:P_:=by go_wp2_with (first|((with_reducible refine gate_dst (N:=2) rfl ?_);refine al_ st ?_;clear st cl;intro g2 w_ st;have cl:=cl_ st)|((with_reducible refine gate_dst (N:=3) rfl ?_);refine al_ st ?_;clear st cl;intro g3 w_ st;have cl:=cl_ st)|((with_reducible refine gate_callee (f:=58) rfl ?_);refine ca_ (some 9) Tryz.func58 _ (laws_sameInts.calls k bd be _ bf bg _ _ _ (gt_ st) (gt_ st) (gt_ st) (gt_ st) A_9.out) ?_;rintro e w_ ⟨rfl,hb⟩;refine ⟨_,rfl,?_⟩;replace hb:=hb.below;replace st:=st.ev hb;clear cl hb;have cl:=cl_ st)|((with_reducible refine gate_callee (f:=58) rfl ?_);refine gate_guard (by rfl) ?_;dsimp only;refine ca_ (some 22) Tryz.func58 _ (laws_sameInts.calls k bh bi _ bj bk _ _ _ (gt_ st) (gt_ st) (gt_ st) (gt_ st) A_22.out) ?_;rintro e w_ ⟨rfl,hb⟩;refine ⟨_,rfl,?_⟩;replace hb:=hb.below;replace st:=st.ev hb;clear cl hb;have cl:=cl_ st));(go_ret;exact ⟨tw_,st.b⟩)):P_:=h_
theorem laws_samePlace.calls (k:Nat) (bd:Option Addr) (be:Nat) (aA:List Int) (a0_1:Int) (bh:Option Addr) (bi:Nat) (aB:List Int) (bf:Option Addr) (bg:Nat) (aC:List Int) (a1_1:Int) (bj:Option Addr) (bk:Nat) (aD:List Int) (r:Bool) (w:World) (hr0_0:Kd.C (Kd.int .i64) w bd aA.length aA) (hc0_0:aA.length≤be) (hr0_2:Kd.C (Kd.int .i64) w bh aB.length aB) (hc0_2:aB.length≤bi) (hr1_0:Kd.C (Kd.int .i64) w bf aC.length aC) (hc1_0:aC.length≤bg) (hr1_2:Kd.C (Kd.int .i64) w bj aD.length aD) (hc1_2:aD.length≤bk) (h:laws_samePlace.f k aA a0_1 aB aC a1_1 aD=some r) :
  Calls Tryz.prog 24 #[.agg #[.slice bd aA.length be,.int .i64 a0_1,.slice bh aB.length bi],.agg #[.slice bf aC.length bg,.int .i64 a1_1,.slice bj aD.length bk]] w fun e w'=>e=.returned (.bool r)∧Below w.heap.size w w':=by
 have hu35:=Tryz.underlying35;have st:=((((ST.nil w).c hr0_0 hc0_0).c hr0_2 hc0_2).c hr1_0 hc1_0).c hr1_2 hc1_2;have s0:=st;have cl:=cl_ st;have H:=h;clear h;unfold laws_samePlace.f at H;go_enter Tryz.func24,Tryz.ntmps24;obtain ⟨aN,A_9,H⟩:=bnd_ H;rcases bx_ aN with rfl|rfl
 ·
  replace H:=bt_ H;by_cases c3:a0_1=a1_1
  ·
   rw [if_pos c3] at H;have aI:(a0_1 == a1_1)=true:=beq_iff_eq.mpr c3;have aU:(a0_1 != a1_1)=false:=bne_eq_false_iff_eq.mpr c3;clear c3;obtain ⟨aX,A_22,H⟩:=bnd_ H;obtain rfl:=Option.some.inj H;exact laws_samePlace.z0
  ·
   rw [if_neg c3] at H;have aI:(a0_1 == a1_1)=false:=beq_eq_false_iff_ne.mpr c3;have aU:(a0_1 != a1_1)=true:=bne_iff_ne.mpr c3;obtain rfl:=Option.some.inj H;exact laws_samePlace.z0
 ·
  replace H:=bf_ H;obtain rfl:=Option.some.inj H;exact laws_samePlace.z0
def laws_FnStoreSave.j0:Nat→Bool→Bool→ByteArray→ByteArray→Int→ByteArray→ByteArray→Int→Option (Bool)
 |0,_,_,_,_,_,_,_,_=>none
 |k+1,x5,x38,av,aw,ax,ah,ae,ai=>if x38=true then (some false) else (if x5=true then ((impl_StoreOpen.f k av aw ax).bind fun ap=>((impl_StoreOpen.f k ah ae ai).bind fun am=>((impl_StoreCrash.f k ah ae ai 0).bind fun aq=>((impl_StoreSave.f k ah ae ai).bind fun ar=>((impl_StoreOk.f k ah ae ai).bind fun aO=>(if aO=true then (if ap.2.2.2.2=true then (if am.2.2.2.2=true then ((laws_samePlace.f k ap.1 ap.2.1 ap.2.2.1 am.1 am.2.1 am.2.2.1).bind fun aP=>(if aP=true then (if (am.2.2.2.1.length:Int)=0 then (if ae.toList=([]:List UInt8) then (if aq.2.2.2=true then (if (aq.1.toList == ah.toList && (aq.2.1.toList == ae.toList && (aq.2.2.1 == ai)))=true then (if ar.2.2.2=true then (some (ar.1.toList == ah.toList && (ar.2.1.toList == ae.toList && (ar.2.2.1 == ai)))) else (some false)) else (some false)) else (some false)) else (some false)) else (some false)) else (some false))) else (some false)) else (some false)) else (some false))))))) else (if (ah.toList == ([]:List UInt8) && (ae.toList == ([]:List UInt8) && (ai == 0)))=true then ((impl_StoreOk.f k av aw ax).bind fun aQ=>(if aQ=true then (some false) else ((laws_alive.f k).bind fun aY=>(some aY)))) else (some false)))
def laws_FnStoreSave.f (k:Nat) (l0:List Int):Option (Bool):=if (l0.length:Int)>1048576 then (some true) else ((spec_DrawStoreSave.f k l0).bind fun af=>((impl_StoreSave.f k af.1 af.2.1 af.2.2).bind fun ag=>((spec_StoreSave.f k af.1 af.2.1 af.2.2).bind fun au=>(if (!(ag.1.toList == au.1.toList) ||(!(ag.2.1.toList == au.2.1.toList) ||(!(ag.2.2.1 == au.2.2.1))))=true then (laws_FnStoreSave.j0 k ag.2.2.2 true af.1 af.2.1 af.2.2 ag.1 ag.2.1 ag.2.2.1) else (laws_FnStoreSave.j0 k ag.2.2.2 (ag.2.2.2 != au.2.2.2) af.1 af.2.1 af.2.2 ag.1 ag.2.1 ag.2.2.1)))))
theorem laws_FnStoreSave.z0 {P_:Prop} (h_:P_:=by as_aux_lemma=>(go_wp2_with (first|((with_reducible refine gate_callee (f:=18) rfl ?_);refine ca_ (some 54) Tryz.func18 _ (impl_StoreOpen.calls kj3 _ _ _ _ _ _ _ _ _ (GWb.below HG.out st.b) A_54.out) ?_;rintro e w_ ⟨v0,v1,v2,rfl,h0,h1,h2,hb⟩;refine ⟨_,rfl,?_⟩;obtain ⟨B54_0,d54_0,rfl⟩:=Kd.R_slice h0;obtain ⟨B54_2,d54_2,rfl⟩:=Kd.R_slice h1;obtain ⟨B54_3,d54_3,rfl⟩:=Kd.V_slice h2;replace st:=st.p3 hb (st.mr h0) (st.mr h1) (st.mv h2);clear cl hb h0 h1 h2;have cl:=cl_ st)|((with_reducible refine gate_dst (N:=8) rfl ?_);refine al_ st ?_;clear st cl;intro g8 w_ st;have cl:=cl_ st)|((with_reducible refine gate_store (p:=8) rfl ?_);refine so4_ st ?_;clear st cl;intro w_ st;have cl:=cl_ st)|((with_reducible refine gate_callee (f:=18) rfl ?_);refine ca_ (some 59) Tryz.func18 _ (impl_StoreOpen.calls kj3 _ _ _ _ _ _ _ _ _ (GWb.below HG.out st.b) A_59.out) ?_;rintro e w_ ⟨v0,v1,v2,rfl,h0,h1,h2,hb⟩;refine ⟨_,rfl,?_⟩;obtain ⟨B59_0,d59_0,rfl⟩:=Kd.R_slice h0;obtain ⟨B59_2,d59_2,rfl⟩:=Kd.R_slice h1;obtain ⟨B59_3,d59_3,rfl⟩:=Kd.V_slice h2;replace st:=st.p3 hb (st.mr h0) (st.mr h1) (st.mv h2);clear cl hb h0 h1 h2;have cl:=cl_ st)|((with_reducible refine gate_dst (N:=10) rfl ?_);refine al_ st ?_;clear st cl;intro g10 w_ st;have cl:=cl_ st)|((with_reducible refine gate_store (p:=10) rfl ?_);refine so4_ st ?_;clear st cl;intro w_ st;have cl:=cl_ st)|((with_reducible refine gate_callee (f:=23) rfl ?_);refine ca_ (some 64) Tryz.func23 _ (impl_StoreCrash.calls kj3 _ _ _ _ _ _ _ _ _ (GWb.below HG.out st.b) A_64.out) ?_;rintro e w_ ⟨rfl,hb⟩;refine ⟨_,rfl,?_⟩;replace st:=st.ev hb;clear cl hb;have cl:=cl_ st)|((with_reducible refine gate_dst (N:=12) rfl ?_);refine al_ st ?_;clear st cl;intro g12 w_ st;have cl:=cl_ st)|((with_reducible refine gate_store (p:=12) rfl ?_);refine so3_ st ?_;clear st cl;intro w_ st;have cl:=cl_ st)|((with_reducible refine gate_callee (f:=21) rfl ?_);refine ca_ (some 69) Tryz.func21 _ (impl_StoreSave.calls kj3 _ _ _ _ _ _ _ _ (GWb.below HG.out st.b) A_69.out) ?_;rintro e w_ ⟨rfl,hb⟩;refine ⟨_,rfl,?_⟩;replace st:=st.ev hb;clear cl hb;have cl:=cl_ st)|((with_reducible refine gate_dst (N:=14) rfl ?_);refine al_ st ?_;clear st cl;intro g14 w_ st;have cl:=cl_ st)|((with_reducible refine gate_store (p:=14) rfl ?_);refine so3_ st ?_;clear st cl;intro w_ st;have cl:=cl_ st)|((with_reducible refine gate_callee (f:=15) rfl ?_);refine ca_ (some 73) Tryz.func15 _ (impl_StoreOk.calls kj3 _ _ _ _ _ (GWb.below HG.out st.b) A_73.out) ?_;rintro e w_ ⟨rfl,hb⟩;refine ⟨_,rfl,?_⟩;replace st:=st.ev hb;clear cl hb;have cl:=cl_ st)|((with_reducible refine gate_callee (f:=24) rfl ?_);refine gate_guard (by rfl) ?_;dsimp only;refine ca_ (some 85) Tryz.func24 _ (laws_samePlace.calls kj3 B54_0 d54_0 _ _ B54_2 d54_2 _ B59_0 d59_0 _ _ B59_2 d59_2 _ _ _ (gt_ st) (gt_ st) (gt_ st) (gt_ st) (gt_ st) (gt_ st) (gt_ st) (gt_ st) A_85.out) ?_;rintro e w_ ⟨rfl,hb⟩;refine ⟨_,rfl,?_⟩;replace st:=st.ev hb;clear cl hb;have cl:=cl_ st)|((with_reducible refine gate_callee (f:=15) rfl ?_);refine gate_guard (by rfl) ?_;dsimp only;refine ca_ (some 46) Tryz.func15 _ (impl_StoreOk.calls kj3 _ _ _ _ _ (GWb.below HG.out st.b) A_46.out) ?_;rintro e w_ ⟨rfl,hb⟩;refine ⟨_,rfl,?_⟩;replace st:=st.ev hb;clear cl hb;have cl:=cl_ st)|((with_reducible refine gate_callee (f:=16) rfl ?_);refine gate_guard (by rfl) ?_;dsimp only;refine ca_ (some 50) Tryz.func16 _ (laws_alive.calls kj3 _ _ A_50.out) ?_;rintro e w_ ⟨rfl,hb⟩;refine ⟨_,rfl,?_⟩;replace st:=st.ev hb;clear cl hb;have cl:=cl_ st));(go_ret;exact ⟨tw_,st.b⟩))):P_:=h_
theorem laws_FnStoreSave.calls (k:Nat) (A0:Option Addr) (c0:Nat) (l0:List Int) (r:Bool) (w:World) (hr0:Kd.C (Kd.int .u8) w A0 l0.length l0) (hc0:l0.length≤c0) (hG:GWb w) (h:laws_FnStoreSave.f k l0=some r) :
  Calls Tryz.prog 4 #[.slice A0 l0.length c0] w fun e w'=>e=.returned (.bool r)∧Below w.heap.size w w':=by
 have HG:=A_ hG;clear hG;have hu24:=Tryz.underlying24;have hu38:=Tryz.underlying38;have hu35:=Tryz.underlying35;have st:=(ST.nil w).c hr0 hc0;have s0:=st;have cl:=cl_ st;have H:=h;clear h;unfold laws_FnStoreSave.f at H;go_enter Tryz.func4,Tryz.ntmps4;by_cases c2:(l0.length:Int)>1048576
 ·
  rw [if_pos c2] at H;have bv:decide (1048576<(l0.length:Int))=true:=decide_eq_true c2;have bw:decide (1048576<l0.length)=true:=decide_eq_true (by omega);clear c2;obtain rfl:=Option.some.inj H;go_wp2;go_ret;exact ⟨tw_,st.b⟩
 ·
  rw [if_neg c2] at H;have bv:decide (1048576<(l0.length:Int))=false:=decide_eq_false c2;have bw:decide (1048576<l0.length)=false:=decide_eq_false (by omega);clear c2;obtain ⟨⟨aZ,a6,a7⟩,A_20,H⟩:=bnd_ H;(try dsimp only at H);obtain ⟨⟨ab,aa,ac,aR⟩,A_23,H⟩:=bnd_ H;(try dsimp only at H);obtain ⟨⟨aE,aF,aG,bp⟩,A_28,H⟩:=bnd_ H;(try dsimp only at H);have HC4:=A_ H;clear H
  go_upto_region 6 with (first|((with_reducible refine gate_callee (f:=20) rfl ?_);refine ca_ (some 20) Tryz.func20 _ (spec_DrawStoreSave.calls k A0 c0 _ _ _ _ _ (gt_ st) (gt_ st) A_20.out) ?_;rintro e w_ ⟨rfl,hb⟩;refine ⟨_,rfl,?_⟩;replace st:=st.ev hb;clear cl hb;have cl:=cl_ st)|((with_reducible refine gate_dst (N:=3) rfl ?_);refine al_ st ?_;clear st cl;intro g3 w_ st;have cl:=cl_ st)|((with_reducible refine gate_store (p:=3) rfl ?_);refine so3_ st ?_;clear st cl;intro w_ st;have cl:=cl_ st)|((with_reducible refine gate_callee (f:=21) rfl ?_);refine ca_ (some 23) Tryz.func21 _ (impl_StoreSave.calls k _ _ _ _ _ _ _ _ (GWb.below HG.out st.b) A_23.out) ?_;rintro e w_ ⟨rfl,hb⟩;refine ⟨_,rfl,?_⟩;replace st:=st.ev hb;clear cl hb;have cl:=cl_ st)|((with_reducible refine gate_dst (N:=4) rfl ?_);refine al_ st ?_;clear st cl;intro g4 w_ st;have cl:=cl_ st)|((with_reducible refine gate_store (p:=4) rfl ?_);refine so3_ st ?_;clear st cl;intro w_ st;have cl:=cl_ st)|((with_reducible refine gate_callee (f:=22) rfl ?_);refine ca_ (some 28) Tryz.func22 _ (spec_StoreSave.calls k _ _ _ _ _ _ _ _ A_28.out) ?_;rintro e w_ ⟨rfl,hb⟩;refine ⟨_,rfl,?_⟩;replace st:=st.ev hb;clear cl hb;have cl:=cl_ st)|((with_reducible refine gate_dst (N:=6) rfl ?_);refine al_ st ?_;clear st cl;intro g6 w_ st;have cl:=cl_ st)|((with_reducible refine gate_store (p:=6) rfl ?_);refine so3_ st ?_;clear st cl;intro w_ st;have cl:=cl_ st))
  (try simp only [Act.put,sa_,sb_,sc_])
  go_cut [38] (fun b0 wc=>∃(kq:Nat) (aH:Bool),b0=.bool aH∧Aside0 (laws_FnStoreSave.j0 kq aR aH aZ a6 a7 ab aa ac=some r)∧Aside0 (kq≤k)∧ST w [] [Bx g3 #[.string aZ,.string a6,.int .i64 a7] 24,Bx g4 #[.string ab,.string aa,.int .i64 ac] 24,Bx g6 #[.string aE,.string aF,.int .i64 aG] 24] wc)
  case first =>
   have H:=HC4.out;clear HC4;by_cases c5:(!(ab.toList == aE.toList) ||(!(aa.toList == aF.toList) ||(!(ac == aG))))=true
   ·
    rw [if_pos c5] at H;have az:(!(ab.toList == aE.toList) ||(!(aa.toList == aF.toList) ||(!(ac == aG))))=true:=c5;clear c5;(first|rw [az]|(simp only [i64_w,i32_w];rw [az])|skip);have H':=A_ H;clear H;go_wp2;go_meet
    case rel=>exact ⟨_,(true),tx_,H',⟨by first|omega|exact Nat.le_refl _⟩,st.en⟩
   ·
    rw [if_neg c5] at H;have az:(!(ab.toList == aE.toList) ||(!(aa.toList == aF.toList) ||(!(ac == aG))))=false:=by simpa using c5
    clear c5;(first|rw [az]|(simp only [i64_w,i32_w];rw [az])|skip);have H':=A_ H;clear H;go_wp2;go_meet
    case rel=>exact ⟨_,((aR != bp)),tx_,H',⟨by first|omega|exact Nat.le_refl _⟩,st.en⟩
  case rest =>
   clear HC4 st cl;obtain ⟨kq,aH,rfl,HA,HJ3,st⟩:=hcut;have cl:=cl_ st
   cases kq with
   |zero=>exact absurd HA.out (by simp [laws_FnStoreSave.j0])
   |succ kj3 =>
    have H:=HA.out;clear HA;simp only [laws_FnStoreSave.j0] at H;rcases bx_ aH with rfl|rfl
    ·
     replace H:=bt_ H;obtain rfl:=Option.some.inj H;exact laws_FnStoreSave.z0
    ·
     replace H:=bf_ H;rcases bx_ aR with rfl|rfl
     ·
      replace H:=bt_ H;obtain ⟨⟨bN,bO,bP,bQ,bq⟩,A_54,H⟩:=bnd_ H;(try dsimp only at H);obtain ⟨⟨bR,bS,bU,an,br⟩,A_59,H⟩:=bnd_ H;(try dsimp only at H);obtain ⟨⟨aj,ak,al,bs⟩,A_64,H⟩:=bnd_ H;(try dsimp only at H);obtain ⟨⟨bV,bW,bX,bu⟩,A_69,H⟩:=bnd_ H;(try dsimp only at H);obtain ⟨aO,A_73,H⟩:=bnd_ H;rcases bx_ aO with rfl|rfl
      ·
       replace H:=bt_ H;rcases bx_ bq with rfl|rfl
       ·
        replace H:=bt_ H;rcases bx_ br with rfl|rfl
        ·
         replace H:=bt_ H;obtain ⟨aP,A_85,H⟩:=bnd_ H;rcases bx_ aP with rfl|rfl
         ·
          replace H:=bt_ H;by_cases c6:(an.length:Int)=0
          ·
           rw [if_pos c6] at H;have a9:((an.length:Int) == 0)=true:=beq_iff_eq.mpr c6;have bn:((an.length:Int) != 0)=false:=bne_eq_false_iff_eq.mpr c6;clear c6;by_cases c7:aa.toList=([]:List UInt8)
           ·
            rw [if_pos c7] at H;have bb:(aa.toList == ([]:List UInt8))=true:=beq_iff_eq.mpr c7;have bc:(aa.toList != ([]:List UInt8))=false:=bne_eq_false_iff_eq.mpr c7;clear c7;rcases bx_ bs with rfl|rfl
            ·
             replace H:=bt_ H;by_cases c8:(aj.toList == ab.toList && (ak.toList == aa.toList && (al == ac)))=true
             ·
              rw [if_pos c8] at H;have bx:(aj.toList == ab.toList && (ak.toList == aa.toList && (al == ac)))=true:=c8;(try (have bz:decide (aj.toList=ab.toList && (ak.toList == aa.toList && (al == ac)))=true:=by simpa using c8));(try (have bB:(aj.toList == ab.toList && (ak.toList == aa.toList && (al == ac)))=true:=by simpa using c8));clear c8;rcases bx_ bu with rfl|rfl
              ·
               replace H:=bt_ H;obtain rfl:=Option.some.inj H;exact laws_FnStoreSave.z0
              ·
               replace H:=bf_ H;obtain rfl:=Option.some.inj H;exact laws_FnStoreSave.z0
             ·
              rw [if_neg c8] at H;have bx:(aj.toList == ab.toList && (ak.toList == aa.toList && (al == ac)))=false:=by simpa using c8
              (try (have bz:decide (aj.toList=ab.toList && (ak.toList == aa.toList && (al == ac)))=false:=by simpa using c8));(try (have bB:(aj.toList == ab.toList && (ak.toList == aa.toList && (al == ac)))=false:=by simpa using c8));(try (have b1:¬(aj.toList=ab.toList && (ak.toList == aa.toList && (al == ac))):=by simpa using c8));clear c8;obtain rfl:=Option.some.inj H;exact laws_FnStoreSave.z0
            ·
             replace H:=bf_ H;obtain rfl:=Option.some.inj H;exact laws_FnStoreSave.z0
           ·
            rw [if_neg c7] at H;have bb:(aa.toList == ([]:List UInt8))=false:=beq_eq_false_iff_ne.mpr c7;have bc:(aa.toList != ([]:List UInt8))=true:=bne_iff_ne.mpr c7;obtain rfl:=Option.some.inj H;exact laws_FnStoreSave.z0
          ·
           rw [if_neg c6] at H;have a9:((an.length:Int) == 0)=false:=beq_eq_false_iff_ne.mpr c6;have bn:((an.length:Int) != 0)=true:=bne_iff_ne.mpr c6;have b2:¬(an=[]):=fun h_=>c6 (by rw [h_];rfl);obtain rfl:=Option.some.inj H;exact laws_FnStoreSave.z0
         ·
          replace H:=bf_ H;obtain rfl:=Option.some.inj H;exact laws_FnStoreSave.z0
        ·
         replace H:=bf_ H;obtain rfl:=Option.some.inj H;exact laws_FnStoreSave.z0
       ·
        replace H:=bf_ H;obtain rfl:=Option.some.inj H;exact laws_FnStoreSave.z0
      ·
       replace H:=bf_ H;obtain rfl:=Option.some.inj H;exact laws_FnStoreSave.z0
     ·
      replace H:=bf_ H;by_cases c9:(ab.toList == ([]:List UInt8) && (aa.toList == ([]:List UInt8) && (ac == 0)))=true
      ·
       rw [if_pos c9] at H;have bl:(ab.toList == ([]:List UInt8) && (aa.toList == ([]:List UInt8) && (ac == 0)))=true:=c9;(try (have bC:((ab.toList.isEmpty && (aa.toList.isEmpty && (ac == 0))))=true:=by simpa using bl));(try (have bD:decide (ab.toList=([]:List UInt8) && (aa.toList == ([]:List UInt8) && (ac == 0)))=true:=by simpa using c9));(try (have bE:(ab.toList == ([]:List UInt8) && (aa.toList == ([]:List UInt8) && (ac == 0)))=true:=by simpa using c9));clear c9;obtain ⟨aQ,A_46,H⟩:=bnd_ H;rcases bx_ aQ with rfl|rfl
       ·
        replace H:=bt_ H;obtain rfl:=Option.some.inj H;exact laws_FnStoreSave.z0
       ·
        replace H:=bf_ H;obtain ⟨aY,A_50,H⟩:=bnd_ H;obtain rfl:=Option.some.inj H;exact laws_FnStoreSave.z0
      ·
       rw [if_neg c9] at H;have bl:(ab.toList == ([]:List UInt8) && (aa.toList == ([]:List UInt8) && (ac == 0)))=false:=by simpa using c9
       (try (have bC:((ab.toList.isEmpty && (aa.toList.isEmpty && (ac == 0))))=false:=by simpa using bl));(try (have bD:decide (ab.toList=([]:List UInt8) && (aa.toList == ([]:List UInt8) && (ac == 0)))=false:=by simpa using c9));(try (have bE:(ab.toList == ([]:List UInt8) && (aa.toList == ([]:List UInt8) && (ac == 0)))=false:=by simpa using c9));(try (have b3:¬(ab.toList=([]:List UInt8) && (aa.toList == ([]:List UInt8) && (ac == 0))):=by simpa using c9));clear c9;obtain rfl:=Option.some.inj H;exact laws_FnStoreSave.z0
/-- THE ONE PURE STATEMENT of laws_FnStoreSave: yours. -/
def laws_FnStoreSave.Pure:Prop:=∀(l0:List Int),l0.length≤maxLen→l0.length*1≤140737488351232→(∀x ∈ l0,(Lit.int .u8 x).wf=true)→∃k,laws_FnStoreSave.f k l0=some true
theorem laws_FnStoreSave.walk (P:laws_FnStoreSave.Pure) (a0:Option Addr) (len0 cap0:Nat) (z0:List Int) (w:World) (hG:GWb w) (w0:(a0=none∧len0=0∧cap0=0∧z0=[])∨∃x,a0=some x∧len0≤cap0∧cap0≤maxLen∧z0.length=cap0∧(∀i,i<z0.length→w.cell? (x.add i)=some (.int .u8 (z0.getD i 0)))∧∀n ∈ z0,(Lit.int .u8 n).wf=true) (y0:len0*1≤140737488351232) :
  Calls Tryz.prog 4 #[.slice a0 len0 cap0] w fun e w'=>e=.returned (.bool true)∧Below w.heap.size w w':=by
 obtain ⟨l0,rfl,hr0,hm0,hw0,hc0⟩:=ReadsInt.ofRowC w0;obtain ⟨k,h⟩:=P l0 hm0 y0 hw0;refine (laws_FnStoreSave.calls k _ _ l0 true w (Kd.C_of_reads (d:=(0:Int)) (h1:=fun _=>rfl) hr0) hc0 hG h).mono ?_;rintro e w' ⟨rfl,hd⟩;exact ⟨rfl,hd⟩
end Go.Proofs.YtopboabeigakoaaGreatDoor.MFnStoreSave
