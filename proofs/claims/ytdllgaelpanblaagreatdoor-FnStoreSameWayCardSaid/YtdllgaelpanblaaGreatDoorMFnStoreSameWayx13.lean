/- Walks for FnStoreSameWay: a call returns what the plain function tells. Conditions: in each statement. -/
import Derived.Test.YtdllgaelpanblaaGreatDoorMFnStoreSameWayx7
namespace Go.Proofs.YtdllgaelpanblaaGreatDoor.MFnStoreSameWay
open Go.RowKit Go.Proofs.YtdllgaelpanblaaGreatDoorW.PrintWords Go.Proofs.YtdllgaelpanblaaGreatDoorW.PrintLast Go.Proofs.YtdllgaelpanblaaGreatDoorW.PrintMore
attribute [local go_sem] max2_int min2_int max_two min_two max_three min_three max_four min_four
set_option linter.unusedVariables false
set_option linter.unusedSimpArgs false
set_option maxHeartbeats 8000000
set_option maxRecDepth 100000
def spec_StoreMend.f (k:Nat) (a0_0:ByteArray) (a0_1:ByteArray) (a0_2:Int):Option (ByteArray×ByteArray×Int×Bool):=(spec_StoreOk.f k a0_0 a0_1 a0_2).bind fun aB=>(if aB=true then ((spec_ReadJournal.f k a0_1).bind fun ao=>(if 0≤ao.2 then (if ao.2≤(a0_1.size:Int) then (some (a0_0,a0_1.extract 0 (ao.2:Int).toNat,mn a0_2 ao.2,true)) else (none)) else (none))) else (some ((⟨#[]⟩:ByteArray),(⟨#[]⟩:ByteArray),0,false)))
def spec_StoreMend.T4:Bool×List (List Nat×List Nat):=(true,[([],[]),([0],[0]),([],[]),([2],[2]),([],[]),([3,4],[3,4]),([],[]),([6],[6]),([],[]),([7,8],[7,8]),([1,5,9],[1,5,9]),([10,0,1,2,3,4,5,6,7,8,9,10],[10]),([11,0,1,2,3,4,5,6,7,8,9,10,11],[])])
def spec_StoreMend.B4:List Nat:=[0,1,0,4,0,28,0,64,0,448,1023,2047,4095]
theorem spec_StoreMend.tab4:rtab .any (opsOf Tryz.f5 4)=spec_StoreMend.T4:=by kernel_rfl
theorem spec_StoreMend.bits4:waitsOk spec_StoreMend.T4.2 spec_StoreMend.B4=true:=by kernel_rfl
theorem spec_StoreMend.z0 {P_:Prop} (h_:P_:=by (try go_wp2_with (first|((with_reducible refine gd_ 1 ?_);refine al_ st ?_;clear st cl;intro g1 w_ st;have cl:=cl_ st)|((with_reducible refine gd_ 2 ?_);refine al_ st ?_;clear st cl;intro g2 w_ st;have cl:=cl_ st)|((with_reducible refine gc_ 17 ?_);refine ca_ (some 7) Tryz.func17 _ (spec_StoreOk.calls k _ _ _ _ _ A_7.out) ?_;rintro e w_ ⟨rfl,hb⟩;refine ⟨_,rfl,?_⟩;replace st:=st.ev hb;clear cl hb;have cl:=cl_ st)|((with_reducible refine gc_ 18 ?_);refine ca_ (some 13) Tryz.func18 _ (spec_ReadJournal.calls k _ _ _ _ A_13.out) ?_;rintro e w_ ⟨v0,rfl,h0,hb⟩;refine ⟨_,rfl,?_⟩;obtain ⟨B13_0,d13_0,rfl⟩:=Kd.R_slice h0;replace st:=st.p1 hb (st.mr h0);clear cl hb h0;have cl:=cl_ st)|((with_reducible refine gs_ 2 ?_);refine so3_ st ?_;clear st cl;intro w_ st;have cl:=cl_ st)));(all_goals (try (refine rg_ st [11] ?_;clear st cl;intro w_ st hs;have cl:=cl_ st;refine with_tabW spec_StoreMend.tab4 spec_StoreMend.bits4 (fun HT_ HW_=>?_);refine pv_ 0 ?_;refine pv_ 2 ?_;refine pv_ 4 ?_;refine pv_ 6 ?_;refine pv_ 8 ?_;refine tu_ 1 ?_;refine tu_ 3 ?_;refine tu_ 7 ?_;refine pv_ 5 ?_;refine pv_ 9 ?_;refine pv_ 10 ?_;refine lv_ 11 (fun K hK=>?_);refine sp3_ st ?_;clear st cl;intro w_ st;have cl:=cl_ st;refine hK.out _ _ ?_;clear hK K;refine pv_ 12 ?_;refine done_ (done_of HT_.out (by kernel_rfl)) ?_;all_goals (try go_wp2_with (first|((with_reducible refine gd_ 1 ?_);refine al_ st ?_;clear st cl;intro g1 w_ st;have cl:=cl_ st)|((with_reducible refine gd_ 2 ?_);refine al_ st ?_;clear st cl;intro g2 w_ st;have cl:=cl_ st)|((with_reducible refine gc_ 17 ?_);refine ca_ (some 7) Tryz.func17 _ (spec_StoreOk.calls k _ _ _ _ _ A_7.out) ?_;rintro e w_ ⟨rfl,hb⟩;refine ⟨_,rfl,?_⟩;replace st:=st.ev hb;clear cl hb;have cl:=cl_ st)|((with_reducible refine gc_ 18 ?_);refine ca_ (some 13) Tryz.func18 _ (spec_ReadJournal.calls k _ _ _ _ A_13.out) ?_;rintro e w_ ⟨v0,rfl,h0,hb⟩;refine ⟨_,rfl,?_⟩;obtain ⟨B13_0,d13_0,rfl⟩:=Kd.R_slice h0;replace st:=st.p1 hb (st.mr h0);clear cl hb h0;have cl:=cl_ st)|((with_reducible refine gs_ 2 ?_);refine so3_ st ?_;clear st cl;intro w_ st;have cl:=cl_ st))))));(refine bodyPost_ret (rct_ st Tryz.underlying24) rfl ?_;exact ⟨tw_,st.b⟩)):P_:=h_
theorem spec_StoreMend.calls (k:Nat) (a0_0:ByteArray) (a0_1:ByteArray) (a0_2:Int) (r1:ByteArray) (r2:ByteArray) (r3:Int) (r4:Bool) (w:World) (h:spec_StoreMend.f k a0_0 a0_1 a0_2=some (r1,r2,r3,r4)) :
  Calls Tryz.prog 5 #[.agg #[.string a0_0,.string a0_1,.int .i64 a0_2]] w fun e w'=>e=.returned (.tuple #[.agg #[.string r1,.string r2,.int .i64 r3],.bool r4])∧Below w.heap.size w w':=by
 have hu24:=Tryz.underlying24;have st:=ST.nil w;have s0:=st;have cl:=cl_ st;have H:=h;clear h;unfold spec_StoreMend.f at H;go_enter Tryz.func5,Tryz.ntmps5;obtain ⟨aB,A_7,H⟩:=bnd_ H;rcases bx_ aB with rfl|rfl
 ·
  replace H:=bt_ H;obtain ⟨⟨bE,aj⟩,A_13,H⟩:=bnd_ H;(try dsimp only at H);replace H:=i0_ H;obtain ⟨c2,H⟩:=H;have av:=eq_true c2;have bF:decide (0≤aj)=true:=decide_eq_true c2;clear c2;replace H:=i0_ H;obtain ⟨c3,H⟩:=H;have bm:=eq_true c3;have bG:decide (aj≤(a0_1.size:Int))=true:=decide_eq_true c3;clear c3;have hm4:(if aj<a0_2 then aj else a0_2)=mn a0_2 aj:=rfl;obtain ⟨rfl,rfl,rfl,rfl⟩:=sj4_ H;exact spec_StoreMend.z0
 ·
  replace H:=bf_ H;obtain ⟨rfl,rfl,rfl,rfl⟩:=sj4_ H;exact spec_StoreMend.z0
def impl_coloursOk.f (a0:Int):Option (Bool):=if a0≥1 then (some (decide (a0≤3))) else (some false)
theorem impl_coloursOk.calls (a0:Int) (r:Bool) (w:World) (h:impl_coloursOk.f a0=some r) :
  Calls Tryz.prog 47 #[.int .i64 a0] w fun e w'=>e=.returned (.bool r)∧Drawn0 w w':=by
 have H:=h;clear h;unfold impl_coloursOk.f at H;replace H:=ih_ H;rcases H with ⟨av,H⟩|⟨av,H⟩
 ·
  obtain rfl:=Option.some.inj H;go_enter Tryz.func47,Tryz.ntmps47;go_wp2;go_ret;exact ⟨tx_,dz_⟩
 ·
  obtain rfl:=Option.some.inj H;go_enter Tryz.func47,Tryz.ntmps47;go_wp2;go_ret;exact ⟨tx_,dz_⟩
def impl_UrnOk.l0:Nat→List Int→List Int→Int→Int→Option (Bool)
 |0,_,_,_,_=>none
 |k+1,x0,x5,x6,x7=>if x7<x6 then (if 0≤x7 then (if x7<(x5.length:Int) then (if (rd x5 x7)<0 then (some false) else (if (rd x5 x7)>40 then (some false) else (impl_UrnOk.l0 k x0 x5 x6 (wrap64 (x7+1))))) else (none)) else (none)) else ((impl_coloursOk.f (x0.length:Int)).bind fun aC=>(some aC))
def impl_UrnOk.f (k:Nat) (l0:List Int):Option (Bool):=impl_UrnOk.l0 k l0 l0 (l0.length:Int) 0
theorem impl_UrnOk.mono_l:∀k,(∀y0 y1 y2 y3,LeO (impl_UrnOk.l0 k y0 y1 y2 y3) (impl_UrnOk.l0 (k+1) y0 y1 y2 y3))
 |0=>fun _ _ _ _ r h=>by simp [impl_UrnOk.l0] at h
 |k+1=>by
  have ih0:=impl_UrnOk.mono_l k
  ·
   intro y0 y1 y2 y3
   unfold impl_UrnOk.l0
   repeat' (with_reducible first|exact ih0 _ _ _ _|exact mr_|exact mn_|refine mi_ ?_ ?_|refine mb_ ?_ (fun _=>?_))
theorem impl_UrnOk.mono:∀a0 k,LeO (impl_UrnOk.f k a0) (impl_UrnOk.f (k+1) a0):=by
 intro a0 k;have ih0:=impl_UrnOk.mono_l k;unfold impl_UrnOk.f;repeat' (with_reducible first|exact ih0 _ _ _ _|exact mr_|exact mn_|refine mi_ ?_ ?_|refine mb_ ?_ (fun _=>?_))
theorem impl_UrnOk.calls (k:Nat) (A0:Option Addr) (c0:Nat) (l0:List Int) (r:Bool) (w:World) (hr0:Kd.C (Kd.int .i64) w A0 l0.length l0) (hc0:l0.length≤c0) (h:impl_UrnOk.f k l0=some r) :
  Calls Tryz.prog 19 #[.slice A0 l0.length c0] w fun e w'=>e=.returned (.bool r)∧Drawn0 w w':=by
 have HR0:=A_ hr0;have HC0:=A_ hc0;clear hr0 hc0;have H:=h;clear h;unfold impl_UrnOk.f at H;have H':=A_ H;clear H;go_enter Tryz.func19,Tryz.ntmps19;go_wp2
 go_loopg [7] k (fun kq v7 w'=>∃(ac:Int),v7=.int .i64 ac∧Aside0 (impl_UrnOk.l0 kq l0 l0 (l0.length:Int) ac=some r)∧Aside0 (kq≤k)∧Drawn0 w w')
 case atStart=>exact ⟨(0),tx_,H',⟨Nat.le_refl _⟩,dz_⟩
 case round =>
  clear H';obtain ⟨ac,rfl,HA,HK1,⟨m1,rfl⟩⟩:=hrel
  cases gk with
  |zero=>exact absurd HA.out (by simp [impl_UrnOk.l0])
  |succ k1 =>
   have H:=HA.out;clear HA;simp only [impl_UrnOk.l0] at H;replace H:=it_ H;rcases H with ⟨av,H⟩|⟨av,H⟩
   ·
    replace H:=in_ H;obtain ⟨bm,H⟩:=H;replace H:=in_ H;obtain ⟨bH,H⟩:=H;replace H:=it_ H;rcases H with ⟨bn,H⟩|⟨bn,H⟩
    ·
     obtain rfl:=Option.some.inj H;obtain ⟨p666,q666,ad666,e666,ap⟩:=a2_ (Kd.at_int HR0.out ac);cases e666;go_wp2;go_ret;exact ⟨tx_,dz_⟩
    ·
     replace H:=ig_ H;rcases H with ⟨bo,H⟩|⟨bo,H⟩
     ·
      obtain rfl:=Option.some.inj H;obtain ⟨p666,q666,ad666,e666,ap⟩:=a2_ (Kd.at_int HR0.out ac);cases e666;go_wp2;go_ret;exact ⟨tx_,dz_⟩
     ·
      have H':=A_ H;clear H;obtain ⟨p666,q666,ad666,e666,ap⟩:=a2_ (Kd.at_int HR0.out ac);cases e666;go_wp2
      go_roundg k1
      case measure=>have:=HK1.out;omega
      case rel=>exact ⟨(wrap64 (ac+1)),tx_,H',⟨by have:=HK1.out;omega⟩,dz_⟩
   ·
    obtain ⟨aC,A7,H⟩:=bnd_ H;(try dsimp only at H);obtain rfl:=Option.some.inj H;go_wp2_with (first|((with_reducible refine gc_ 47 ?_);refine gl_ (some 20) Tryz.func47 #[.int .i64 (l0.length:Int)] ?_;(with_reducible refine (impl_coloursOk.calls (l0.length:Int) aC _ A7.out).mono ?_);rintro e w' ⟨rfl,⟨nd,rfl⟩⟩;refine ⟨_,rfl,?_⟩));go_ret;exact ⟨tx_,dz_⟩
def laws_alive.f (k:Nat)  : Option (Bool):=(impl_UrnOk.f k (([1]:List Int))).bind fun aD=>(if aD=true then ((impl_UrnOk.f k (([]:List Int))).bind fun aI=>(some (!aI))) else (some false))
theorem laws_alive.mono:∀k,LeO (laws_alive.f k) (laws_alive.f (k+1)):=by
 intro  k;unfold laws_alive.f;repeat' (with_reducible first|exact impl_UrnOk.mono _ _|exact mr_|exact mn_|refine mi_ ?_ ?_|refine mb_ ?_ (fun _=>?_))
theorem laws_alive.z0 {P_:Prop} (h_:P_:=by go_wp2_with (first|((with_reducible refine gd_ 1 ?_);refine nw_ (Kd.int .i64) 3 (([1]:List Int):List Int) [.int .i64 1] st ?_;clear st cl;intro B1_0 d1_0 w_ st;have cl:=cl_ st)|((with_reducible refine gc_ 19 ?_);refine ca_ (some 2) Tryz.func19 _ (impl_UrnOk.calls k B1_0 d1_0 _ _ _ (gt_ st) (gt_ st) A_2.out) ?_;rintro e w_ ⟨rfl,hb⟩;refine ⟨_,rfl,?_⟩;replace hb:=hb.below;replace st:=st.ev hb;clear cl hb;have cl:=cl_ st)|((with_reducible refine gd_ 4 ?_);refine gate_guard (by rfl) ?_;dsimp only;refine nw_ (Kd.int .i64) 3 (([]:List Int):List Int) [] st ?_;clear st cl;intro B4_0 d4_0 w_ st;have cl:=cl_ st)|((with_reducible refine gc_ 19 ?_);refine gate_guard (by rfl) ?_;dsimp only;refine ca_ (some 5) Tryz.func19 _ (impl_UrnOk.calls k B4_0 d4_0 _ _ _ (gt_ st) (gt_ st) A_5.out) ?_;rintro e w_ ⟨rfl,hb⟩;refine ⟨_,rfl,?_⟩;replace hb:=hb.below;replace st:=st.ev hb;clear cl hb;have cl:=cl_ st));(go_ret;exact ⟨tw_,st.b⟩)):P_:=h_
theorem laws_alive.calls (k:Nat)  (r:Bool) (w:World) (h:laws_alive.f k=some r) :
  Calls Tryz.prog 6 #[] w fun e w'=>e=.returned (.bool r)∧Below w.heap.size w w':=by
 have st:=ST.nil w;have s0:=st;have cl:=cl_ st;have H:=h;clear h;unfold laws_alive.f at H;go_enter Tryz.func6,Tryz.ntmps6;obtain ⟨aD,A_2,H⟩:=bnd_ H;rcases bx_ aD with rfl|rfl
 ·
  replace H:=bt_ H;obtain ⟨aI,A_5,H⟩:=bnd_ H;obtain rfl:=Option.some.inj H;exact laws_alive.z0
 ·
  replace H:=bf_ H;obtain rfl:=Option.some.inj H;exact laws_alive.z0
def spec_DeskNew.f (k:Nat) (ad:List Int) (a0_1:Int) (ae:List Int):Option (List Int×Int×List Int×(List (S31))×Bool):=(spec_PlaceOk.f k ad a0_1 ae).bind fun aq=>(if aq=true then ((spec_l15Place.f ad a0_1 ae).bind fun af=>(some (af.1,af.2.1,af.2.2,([]:List (S31)),true))) else (some (([]:List Int),0,([]:List Int),([]:List (S31)),false)))
theorem spec_DeskNew.calls (k:Nat) (ak:Option Addr) (al:Nat) (ad:List Int) (a0_1:Int) (am:Option Addr) (an:Nat) (ae:List Int) (r1:List Int) (r2:Int) (r3:List Int) (r4:List (S31)) (r5:Bool) (w:World) (hr0_0:Kd.C (Kd.int .i64) w ak ad.length ad) (hc0_0:ad.length≤al) (hr0_2:Kd.C (Kd.int .i64) w am ae.length ae) (hc0_2:ae.length≤an) (h:spec_DeskNew.f k ad a0_1 ae=some (r1,r2,r3,r4,r5)) :
  Calls Tryz.prog 48 #[.agg #[.slice ak ad.length al,.int .i64 a0_1,.slice am ae.length an]] w fun e w'=>∃v0_ v2_ v3_:Value,e=.returned (.tuple #[.agg #[v0_,.int .i64 r2,v2_,v3_],.bool r5])∧Kd.R (Kd.int .i64) 3 w' w.heap.size (fun k_=>some k_≠(v2_:Value).ownBlock) v0_ r1∧Kd.R (Kd.int .i64) 3 w' w.heap.size (fun k_=>some k_≠(v0_:Value).ownBlock) v2_ r3∧Kd.S k31 31 w' w.heap.size (fun k_=>some k_≠(v0_:Value).ownBlock∧some k_≠(v2_:Value).ownBlock) v3_ r4∧Below w.heap.size w w':=by
 have hu31:=Tryz.underlying31;have hu34:=Tryz.underlying34;have bz:=A_ hr0_0;have ar:=A_ hc0_0;clear hr0_0 hc0_0;have bB:=A_ hr0_2;have au:=A_ hc0_2;clear hr0_2 hc0_2;have HB:=A_ (Below.refl w.heap.size w);have H:=h;clear h;unfold spec_DeskNew.f at H;obtain ⟨aq,A2,H⟩:=bnd_ H;(try dsimp only at H);by_cases c3:aq=true
 ·
  subst c3;replace H:=bt_ H
  obtain ⟨⟨aw,ax,ay⟩,A4,H⟩:=bnd_ H;(try dsimp only at H);obtain ⟨rfl,rfl,rfl,rfl,rfl⟩:=sj5_ H;go_enter Tryz.func48,Tryz.ntmps48;go_wp2_with (first|((with_reducible refine gd_ 1 ?_);refine be_ 1 #[.slice ak ad.length al,.int .i64 a0_1,.slice am ae.length an] 31 ?_;intro aJ hg w5 aa hb;have aK:=gx_ HB hg;have aL:=gx_ HB hg;replace HB:=bs_ HB hb;clear hb hg)|((with_reducible refine gd_ 2 ?_);refine be_ 2 #[.slice none 0 0,.int .i64 0,.slice none 0 0,.slice none 0 0] 34 ?_;intro ag hg w6 ab hb;have aM:=gx_ HB hg;have aN:=gx_ HB hg;replace HB:=bs_ HB hb;have ah:=nl_ aa hg;have ai:=ng_ aa hg;replace aa:=bb_ aa hb;clear hb hg;have bI:=ah.out;have bJ:=ai.out;obtain ⟨bp,bq,br,bs,bu,bv⟩:=cf3_ aa)|((with_reducible refine gc_ 61 ?_);refine gl_ (some 5) Tryz.func61 #[.agg #[.slice ak ad.length al,.int .i64 a0_1,.slice am ae.length an]] ?_;(with_reducible refine (spec_PlaceOk.calls k _ _ ad a0_1 _ _ ae true _ ?s1 ?s2 ?s3 ?s4 A2.out).mono ?_);(case s1=>exact tD_);(case s2=>exact ar.out);(case s3=>exact tD_);(case s4=>exact au.out);rintro e w9 ⟨rfl,hb⟩;refine ⟨_,rfl,?_⟩;replace aa:=bb_ aa hb;replace ab:=bb_ ab hb;replace HB:=bs_ HB hb;(try clear hb);obtain ⟨aO,aP,aQ,aR,aU,aV⟩:=cf3_ aa)|((with_reducible refine gc_ 69 ?_);refine gl_ (some 9) Tryz.func69 #[.agg #[.slice ak ad.length al,.int .i64 a0_1,.slice am ae.length an]] ?_;(with_reducible refine (spec_l15Place.calls _ _ ad a0_1 _ _ ae aw ax ay _ ?s1 ?s2 ?s3 ?s4 A4.out).mono ?_);(case s1=>exact tD_);(case s2=>exact ar.out);(case s3=>exact tD_);(case s4=>exact au.out);rintro e bM ⟨bK,bL,rfl,ho0,ho1,hb⟩;refine ⟨_,rfl,?_⟩;have az:=rx_ ho0 HB;have aA:=rx_ ho1 HB;replace aa:=bb_ aa hb;replace ab:=bb_ ab hb;replace HB:=bs_ HB hb;(try clear hb ho0 ho1);obtain ⟨aE,aF,bw⟩:=Kd.R_slice aA.out;subst bw;obtain ⟨aG,aH,bx⟩:=Kd.R_slice az.out;subst bx;obtain ⟨aW,aX,aY,aZ,a3,a4,a5,a6⟩:=cf4_ ab));refine bodyPost_ret (results_ct rfl _ _ ag 34 #[.slice aG aw.length aH,.int .i64 ax,.slice aE ay.length aF,.slice none 0 0] (0,0) _ rfl (ps_ ab.out) Tryz.underlying34 rfl (by kernel_rfl)) rfl ?_;exact ⟨_,_,_,tw_,Kd.R_mono (xR_ az ab) (fun _ hk=>hk.1),Kd.R_mono (xR_ aA ab) (fun _ hk=>hk.1),by first|exact Kd.S_nil _ _ _ _ _|exact Kd.N_nil _ _ _ _ _|exact Kd.V_nil _ _ _ _ _|exact Kd.Q_nil _ _ _ _ _|exact Kd.R_nil _ _ _ _ _,(tb_ HB.out)⟩
 ·
  replace c3:=Bool.eq_false_iff.mpr c3;subst c3;replace H:=bf_ H
  obtain ⟨rfl,rfl,rfl,rfl,rfl⟩:=sj5_ H;go_enter Tryz.func48,Tryz.ntmps48;go_wp2_with (first|((with_reducible refine gd_ 1 ?_);refine be_ 1 #[.slice ak ad.length al,.int .i64 a0_1,.slice am ae.length an] 31 ?_;intro aJ hg bN aa hb;have aK:=gx_ HB hg;have aL:=gx_ HB hg;replace HB:=bs_ HB hb;clear hb hg)|((with_reducible refine gd_ 2 ?_);refine be_ 2 #[.slice none 0 0,.int .i64 0,.slice none 0 0,.slice none 0 0] 34 ?_;intro ag hg bO ab hb;have aM:=gx_ HB hg;have aN:=gx_ HB hg;replace HB:=bs_ HB hb;have ah:=nl_ aa hg;have ai:=ng_ aa hg;replace aa:=bb_ aa hb;clear hb hg;have bC:=ah.out;have bD:=ai.out;obtain ⟨a7,a8,a9,bb,bc,bd⟩:=cf3_ aa)|((with_reducible refine gc_ 61 ?_);refine gl_ (some 5) Tryz.func61 #[.agg #[.slice ak ad.length al,.int .i64 a0_1,.slice am ae.length an]] ?_;(with_reducible refine (spec_PlaceOk.calls k _ _ ad a0_1 _ _ ae false _ ?s1 ?s2 ?s3 ?s4 A2.out).mono ?_);(case s1=>exact tD_);(case s2=>exact ar.out);(case s3=>exact tD_);(case s4=>exact au.out);rintro e bP ⟨rfl,hb⟩;refine ⟨_,rfl,?_⟩;replace aa:=bb_ aa hb;replace ab:=bb_ ab hb;replace HB:=bs_ HB hb;(try clear hb);obtain ⟨be,bf,bg,bh,bi,bj,bk,bl⟩:=cf4_ ab));refine bodyPost_ret (results_ct rfl _ _ ag 34 #[.slice none 0 0,.int .i64 0,.slice none 0 0,.slice none 0 0] (0,0) _ rfl (ps_ ab.out) Tryz.underlying34 rfl (by kernel_rfl)) rfl ?_;exact ⟨_,_,_,tw_,kn_,kn_,by first|exact Kd.S_nil _ _ _ _ _|exact Kd.N_nil _ _ _ _ _|exact Kd.V_nil _ _ _ _ _|exact Kd.Q_nil _ _ _ _ _|exact Kd.R_nil _ _ _ _ _,(tb_ HB.out)⟩
end Go.Proofs.YtdllgaelpanblaaGreatDoor.MFnStoreSameWay
