/- Walks for FnStoreSameWay: a call returns what the plain function tells. Conditions: in each statement. -/
import Derived.Test.YtdllgaelpanblaaGreatDoorMFnStoreSameWayx15
namespace Go.Proofs.YtdllgaelpanblaaGreatDoor.MFnStoreSameWay
open Go.RowKit Go.Proofs.YtdllgaelpanblaaGreatDoorW.PrintWords Go.Proofs.YtdllgaelpanblaaGreatDoorW.PrintLast Go.Proofs.YtdllgaelpanblaaGreatDoorW.PrintMore
attribute [local go_sem] max2_int min2_int max_two min_two max_three min_three max_four min_four
set_option linter.unusedVariables false
set_option linter.unusedSimpArgs false
set_option maxHeartbeats 8000000
set_option maxRecDepth 100000
def impl_added.l0:Nat→List Int→List Int→Int→Int→Option (List Int)
 |0,_,_,_,_=>none
 |k+1,x5,x10,x11,x12=>if x12<x11 then (if 0≤x12 then (if x12<(x10.length:Int) then (if x12<(x5.length:Int) then (impl_added.l0 k (x5.set (x12:Int).toNat (wrap64 ((rd x5 x12)+(rd x10 x12)))) x10 x11 (wrap64 (x12+1))) else (none)) else (none)) else (none)) else (some x5)
def impl_added.f (k:Nat) (l0:List Int) (l1:List Int):Option (List Int):=(slices_Clone_int_int.f l0).bind fun ar=>(impl_added.l0 k ar l1 (l1.length:Int) 0)
theorem impl_added.z0 {P_:Prop} (h_:P_:=by go_wp2_with (first|((with_reducible refine gd_ 15 ?_);(try clear ix_);obtain ⟨p_,q_,ad_,e_,x0⟩:=a2_ (Kd.at_int (gC_ st (Kd.int .i64) A1 l1) aa);have ix_:=ix1_ Tryz.underlying29 e_ p_ q_ (c:=c1);clear e_;go_step)|((with_reducible refine gd_ 19 ?_);(try clear ix_);obtain ⟨p_,q_,ad_,e_,x0⟩:=a2_ (Kd.at_int (gK_ st (Kd.int .i64) B9_0 al) aa);have ix_:=ix1_ (n:=ar.length) Tryz.underlying29 e_ p_ (iq_ q_ (gtl_ st)) (c:=d9_0);clear e_;go_step)|((with_reducible refine gd_ 23 ?_);(try clear ix_);obtain ⟨p_,q_,ad_23,e_23,_⟩:=a2_ (Kd.at_int (gK_ st (Kd.int .i64) B9_0 al) aa);have ix_:=ix1_ (n:=ar.length) Tryz.underlying29 e_23 p_ (iq_ q_ (gtl_ st)) (c:=d9_0);replace e_23:=A_ e_23;go_step)|((with_reducible refine gs_ 23 ?_);obtain ⟨hx_,hz_⟩:=st.rc B9_0 al aa 0 e_23.out (by first|exact od_|omega|(simp only [List.length_set];first|exact od_|omega)) (by first|exact od_|omega|(simp only [List.length_set];first|exact od_|omega));refine pt_ B9_0 al aa (wrap64 ((rd al aa)+(rd l1 aa))) e_23.out st (by first|exact od_|omega|(simp only [List.length_set];first|exact od_|omega)) (by first|exact od_|omega|(simp only [List.length_set];first|exact od_|omega)) ?_;clear st cl hx_ hz_;intro w_ st;have cl:=cl_ st));first|(go_roundg k1;(case measure=>have:=HK1.out;omega);(case rel=>exact ⟨((al.set (aa:Int).toNat (wrap64 ((rd al aa)+(rd l1 aa))))),(wrap64 (aa+1)),tx_,H',⟨by have:=HK1.out;omega⟩,st.en⟩))|(go_ret;exact ⟨.slice B9_0 ar.length d9_0,tw_,gtl_ st,st.b⟩)):P_:=h_
theorem impl_added.calls (k:Nat) (A0:Option Addr) (c0:Nat) (l0:List Int) (A1:Option Addr) (c1:Nat) (l1:List Int) (r:List Int) (w:World) (hr0:Kd.C (Kd.int .i64) w A0 l0.length l0) (hc0:l0.length≤c0) (hr1:Kd.C (Kd.int .i64) w A1 l1.length l1) (hc1:l1.length≤c1) (h:impl_added.f k l0 l1=some r) :
  Calls Tryz.prog 94 #[.slice A0 l0.length c0,.slice A1 l1.length c1] w fun e w'=>∃v0_:Value,e=.returned (v0_)∧Kd.R (Kd.int .i64) 3 w' w.heap.size (fun _=>True) v0_ r∧Below w.heap.size w w':=by
 have st:=((ST.nil w).c hr0 hc0).c hr1 hc1;have s0:=st;have cl:=cl_ st;have H:=h;clear h;unfold impl_added.f at H;go_enter Tryz.func94,Tryz.ntmps94;obtain ⟨ar,A_9,H⟩:=bnd_ H;have H':=A_ H;clear H;go_wp2_with (first|((with_reducible refine gc_ 56 ?_);refine ca_ (some 9) Tryz.func56 _ (slices_Clone_int_int.calls A0 c0 _ _ _ (gt_ st) (gt_ st) A_9.out) ?_;rintro e w_ ⟨v0,rfl,h0,hb⟩;refine ⟨_,rfl,?_⟩;obtain ⟨B9_0,d9_0,rfl⟩:=Kd.R_slice h0;replace st:=st.box (A:=AR (Kd.int .i64) 3 w.heap.size (.slice B9_0 ar.length d9_0) ar) hb (st.mr h0);clear cl hb h0;have cl:=cl_ st))
 go_loopg [12] k (fun kq bw w'=>∃(al:List Int) (aa:Int),bw=.int .i64 aa∧Aside0 (impl_added.l0 kq al l1 (l1.length:Int) aa=some r)∧Aside0 (kq≤k)∧ST w [CA (Kd.int .i64) w A1 l1 c1] [AR (Kd.int .i64) 3 w.heap.size (.slice B9_0 ar.length d9_0) al] w')
 case atStart=>exact ⟨(ar),(0),tx_,H',⟨Nat.le_refl _⟩,st.en⟩
 case round =>
  clear H' st cl;obtain ⟨al,aa,rfl,HA,HK1,st⟩:=hrel;have cl:=cl_ st
  cases gk with
  |zero=>exact absurd HA.out (by simp [impl_added.l0])
  |succ k1 =>
   have H:=HA.out;clear HA;simp only [impl_added.l0] at H;replace H:=it_ H;rcases H with ⟨an,H⟩|⟨an,H⟩
   ·
    replace H:=in_ H;obtain ⟨aC,H⟩:=H;replace H:=in_ H;obtain ⟨ao,H⟩:=H;replace H:=in_ H;obtain ⟨bg,H⟩:=H;have H':=A_ H;clear H;exact impl_added.z0
   ·
    obtain rfl:=Option.some.inj H;exact impl_added.z0
def impl_after.l0:Nat→List (List Int)→List Int→List Int→Int→Int→Option (List Int)
 |0,_,_,_,_,_=>none
 |k+1,x1,x7,x12,x13,x14=>if x14<x13 then (if 0≤x14 then (if x14<(x12.length:Int) then (if 0≤(rd x12 x14) then (if (rd x12 x14)<(x1.length:Int) then ((impl_added.f k x7 (rd_L2 x1 (rd x12 x14))).bind fun a9=>(impl_after.l0 k x1 a9 x12 x13 (wrap64 (x14+1)))) else (none)) else (none)) else (none)) else (none)) else (some x7)
def impl_after.f (k:Nat) (l0:List Int) (l1:List (List Int)) (l2:List Int):Option (List Int):=(slices_Clone_int_int.f l0).bind fun bb=>(impl_after.l0 k l1 bb l2 (l2.length:Int) 0)
theorem impl_after.z0 {P_:Prop} (h_:P_:=by go_wp2_with (first|((with_reducible refine gd_ 16 ?_);obtain ⟨p_,q_,ad_,e_,x0⟩:=a2_ (Kd.at_int (gC_ st (Kd.int .i64) A2 l2) ac);have ix_:=ix1_ Tryz.underlying29 e_ p_ q_ (c:=c2);clear e_;go_step)|((with_reducible refine gd_ 21 ?_);obtain ⟨p_,q_,ad_,bc,bd,e_,x0,l0_,C0_⟩:=a2_ (at_L2 (gC_ s0 (Kd.slice 3 (Kd.int .i64)) A1 l1) (rd l2 ac));replace x0:=cb_ st x0;replace st:=st.c C0_ l0_;have ix_:=ix1_ Tryz.underlying92 e_ p_ q_ (c:=c1);clear e_;go_step)|((with_reducible refine gc_ 94 ?_);refine ca_ (some 23) Tryz.func94 _ (impl_added.calls k1 aI aJ _ bc bd _ _ _ (gt_ st) (gt_ st) (gt_ st) (gt_ st) A_23.out) ?_;rintro e w_ ⟨v0,rfl,h0,hb⟩;refine ⟨_,rfl,?_⟩;obtain ⟨B23_0,d23_0,rfl⟩:=Kd.R_slice h0;replace st:=st.p1 hb (st.mr h0);clear cl hb h0;have cl:=cl_ st));first|(go_roundg k1;(case measure=>have:=HK1.out;omega);(case rel=>exact ⟨(a9),(wrap64 (ac+1)),B23_0,d23_0,tx_,tx_,H',⟨by have:=HK1.out;omega⟩,st.en⟩))|(go_ret;exact ⟨.slice aI af.length aJ,tw_,gt_ st,st.b⟩)):P_:=h_
theorem impl_after.calls (k:Nat) (A0:Option Addr) (c0:Nat) (l0:List Int) (A1:Option Addr) (c1:Nat) (l1:List (List Int)) (A2:Option Addr) (c2:Nat) (l2:List Int) (r:List Int) (w:World) (hr0:Kd.C (Kd.int .i64) w A0 l0.length l0) (hc0:l0.length≤c0) (hr1:Kd.C (Kd.slice 3 (Kd.int .i64)) w A1 l1.length l1) (hc1:l1.length≤c1) (hr2:Kd.C (Kd.int .i64) w A2 l2.length l2) (hc2:l2.length≤c2) (h:impl_after.f k l0 l1 l2=some r) :
  Calls Tryz.prog 79 #[.slice A0 l0.length c0,.slice A1 l1.length c1,.slice A2 l2.length c2] w fun e w'=>∃v0_:Value,e=.returned (v0_)∧Kd.R (Kd.int .i64) 3 w' w.heap.size (fun _=>True) v0_ r∧Below w.heap.size w w':=by
 have st:=(((ST.nil w).c hr0 hc0).c hr1 hc1).c hr2 hc2;have s0:=st;have cl:=cl_ st;have H:=h;clear h;unfold impl_after.f at H;go_enter Tryz.func79,Tryz.ntmps79;obtain ⟨bb,A_11,H⟩:=bnd_ H;have H':=A_ H;clear H;go_wp2_with (first|((with_reducible refine gc_ 56 ?_);refine ca_ (some 11) Tryz.func56 _ (slices_Clone_int_int.calls A0 c0 _ _ _ (gt_ st) (gt_ st) A_11.out) ?_;rintro e w_ ⟨v0,rfl,h0,hb⟩;refine ⟨_,rfl,?_⟩;obtain ⟨B11_0,d11_0,rfl⟩:=Kd.R_slice h0;replace st:=st.p1 hb (st.mr h0);clear cl hb h0;have cl:=cl_ st))
 go_loopg [7,14] k (fun kq v7 bM w'=>∃(af:List Int) (ac:Int) (aI:Option Addr) (aJ:Nat),v7=.slice aI af.length aJ∧bM=.int .i64 ac∧Aside0 (impl_after.l0 kq l1 af l2 (l2.length:Int) ac=some r)∧Aside0 (kq≤k)∧ST w [CA (Kd.slice 3 (Kd.int .i64)) w A1 l1 c1,CA (Kd.int .i64) w A2 l2 c2,AR (Kd.int .i64) 3 w.heap.size (.slice aI af.length aJ) af] [] w')
 case atStart=>exact ⟨(bb),(0),B11_0,d11_0,tx_,tx_,H',⟨Nat.le_refl _⟩,st.en⟩
 case round =>
  clear H' st cl;obtain ⟨af,ac,aI,aJ,rfl,rfl,HA,HK1,st⟩:=hrel;have cl:=cl_ st
  cases gk with
  |zero=>exact absurd HA.out (by simp [impl_after.l0])
  |succ k1 =>
   have H:=HA.out;clear HA;simp only [impl_after.l0] at H;replace H:=it_ H;rcases H with ⟨aC,H⟩|⟨aC,H⟩
   ·
    replace H:=in_ H;obtain ⟨ao,H⟩:=H;replace H:=in_ H;obtain ⟨bg,H⟩:=H;replace H:=in_ H;obtain ⟨bx,H⟩:=H;replace H:=in_ H;obtain ⟨bN,H⟩:=H;obtain ⟨a9,A_23,H⟩:=bnd_ H;have H':=A_ H;clear H;exact impl_after.z0
   ·
    obtain rfl:=Option.some.inj H;exact impl_after.z0
def impl_ruleWays.l0:Nat→List Int→List (List Int)→List Int→Int→List Int→Int→Int→Option (Int)
 |0,_,_,_,_,_,_,_=>none
 |k+1,x0,x1,x2,x7,x10,x11,x12=>if x12<x11 then (if 0≤x12 then (if x12<(x10.length:Int) then (if x12≤(x2.length:Int) then ((impl_after.f k x0 x1 (x2.take (x12:Int).toNat)).bind fun aj=>(if 0≤(rd x10 x12) then (if (rd x10 x12)<(aj.length:Int) then (if (wrap64 (x7*(mx 0 (rd aj (rd x10 x12)))))=0 then (some 0) else (impl_ruleWays.l0 k x0 x1 x2 (wrap64 (x7*(mx 0 (rd aj (rd x10 x12))))) x10 x11 (wrap64 (x12+1)))) else (none)) else (none))) else (none)) else (none)) else (none)) else (some x7)
def impl_ruleWays.f (k:Nat) (l0:List Int) (l1:List (List Int)) (l2:List Int):Option (Int):=impl_ruleWays.l0 k l0 l1 l2 1 l2 (l2.length:Int) 0
theorem impl_ruleWays.calls (k:Nat) (A0:Option Addr) (c0:Nat) (l0:List Int) (A1:Option Addr) (c1:Nat) (l1:List (List Int)) (A2:Option Addr) (c2:Nat) (l2:List Int) (r:Int) (w:World) (hr0:Kd.C (Kd.int .i64) w A0 l0.length l0) (hc0:l0.length≤c0) (hr1:Kd.C (Kd.slice 3 (Kd.int .i64)) w A1 l1.length l1) (hc1:l1.length≤c1) (hr2:Kd.C (Kd.int .i64) w A2 l2.length l2) (hc2:l2.length≤c2) (h:impl_ruleWays.f k l0 l1 l2=some r) :
  Calls Tryz.prog 59 #[.slice A0 l0.length c0,.slice A1 l1.length c1,.slice A2 l2.length c2] w fun e w'=>e=.returned (.int .i64 r)∧Below w.heap.size w w':=by
 have HR0:=A_ hr0;have HC0:=A_ hc0;clear hr0 hc0;have HR1:=A_ hr1;have HC1:=A_ hc1;clear hr1 hc1;have HR2:=A_ hr2;have HC2:=A_ hc2;clear hr2 hc2;have HB:=A_ (Below.refl w.heap.size w);have H:=h;clear h;unfold impl_ruleWays.f at H;have H':=A_ H;clear H;go_enter Tryz.func59,Tryz.ntmps59;go_wp2
 go_loopg [7,12] k (fun kq v7 bw w'=>∃(af:Int) (aa:Int),v7=.int .i64 af∧bw=.int .i64 aa∧Aside0 (impl_ruleWays.l0 kq l0 l1 l2 af l2 (l2.length:Int) aa=some r)∧Aside0 (kq≤k)∧Aside0 (Below w.heap.size w w'))
 case atStart=>exact ⟨(1),(0),tx_,tx_,H',⟨Nat.le_refl _⟩,⟨(tb_ HB.out)⟩⟩
 case round =>
  clear H';obtain ⟨af,aa,rfl,rfl,HA,HK1,HB⟩:=hrel
  cases gk with
  |zero=>exact absurd HA.out (by simp [impl_ruleWays.l0])
  |succ k1 =>
   have H:=HA.out;clear HA;simp only [impl_ruleWays.l0] at H;replace H:=it_ H;rcases H with ⟨an,H⟩|⟨an,H⟩
   ·
    replace H:=in_ H;obtain ⟨aC,H⟩:=H;replace H:=in_ H;obtain ⟨ao,H⟩:=H;have bg:=eq_true (od_:0≤aa);replace H:=i0_ H;obtain ⟨c8,H⟩:=H;have bx:=eq_true c8;have bO:decide (aa≤(l2.length:Int))=true:=decide_eq_true c8;clear c8;obtain ⟨aj,A9,H⟩:=bnd_ H;(try dsimp only at H);replace H:=in_ H;obtain ⟨a5,H⟩:=H;replace H:=in_ H;obtain ⟨bh,H⟩:=H;obtain ⟨au,aq⟩:∃j_:Int,(mx 0 (rd aj (rd l2 aa)))=j_:=⟨_,rfl⟩
    replace H:(if (wrap64 (af*(au)))=0 then (some 0) else (impl_ruleWays.l0 k1 l0 l1 l2 (wrap64 (af*(au))) l2 (l2.length:Int) (wrap64 (aa+1))))=some r:=by first|(rw [aq] at H;exact H)|(simp only [aq] at H ⊢;exact H)
    (try rw [aq] at A9);have hji12_:(if 0<(rd aj (rd l2 aa)) then (rd aj (rd l2 aa)) else 0)=au:=aq;by_cases c13:(wrap64 (af*(au)))=0
    ·
     rw [if_pos c13] at H;have a6:((wrap64 (af*(au))) == 0)=true:=beq_iff_eq.mpr c13;have bi:((wrap64 (af*(au))) != 0)=false:=bne_eq_false_iff_eq.mpr c13;clear c13;obtain rfl:=Option.some.inj H;obtain ⟨p788,q788,ad788,e788,ae⟩:=a2_ (Kd.at_int HR2.out aa);cases e788;replace ae:=(HB.out.cell (World.block_lt_of_cell? w _ ae)).trans ae;obtain ⟨i014,hi014,_,hsz14,_⟩:=info_parts info3;obtain ⟨hcut14,hA14,hC14⟩:=print_take_of (P:=Tryz.prog) (Value.int .i64) 0 29 3 .i64 Tryz.underlying29 hi014 hsz14 (some ad788) c2 l2 aa (od_) (od_) HC2.out;have HR789:=A_ (Kd.C_of_reads (h1:=fun _=>rfl) (hA14 _ (Kd.reads_of_C HR2.out)));have HC789:=A_ hC14;clear hA14 hC14 hi014 hsz14;go_wp2_with (first|((with_reducible refine gc_ 79 ?_);refine goesL_ (some 23) rfl rfl Tryz.func79 (by kernel_rfl) rfl #[.slice A0 l0.length c0,.slice A1 l1.length c1,.slice (some ad788) (l2.take (aa:Int).toNat).length c2] rfl (by (try simp only [List.map_toArray,List.map_cons,List.map_nil]);first|done|(rw [show (l2.take (aa:Int).toNat).length=aa.toNat from (by rw [List.length_take];have h_:(aa:Int)≤(l2.length:Int):=od_;omega)]<;>rfl)|rfl|(simp only [List.length_drop,List.length_take];rfl)) ?_;(with_reducible refine (impl_after.calls k1 _ _ l0 _ _ l1 _ _ (l2.take (aa:Int).toNat) aj _ ?s1 ?s2 ?s3 ?s4 ?s5 ?s6 A9.out).mono ?_);(case s1=>exact tD_);(case s2=>exact HC0.out);(case s3=>exact tD_);(case s4=>exact HC1.out);(case s5=>exact tD_);(case s6=>exact HC789.out);rintro e b1 ⟨bz,rfl,ho0,hb⟩;refine ⟨_,rfl,?_⟩;have aw:=rx_ ho0 HB;replace HB:=bs_ HB hb;(try clear hb ho0);obtain ⟨bP,bQ,bB⟩:=Kd.R_slice aw.out;subst bB;obtain ⟨p793,q793,ad793,e793,aX⟩:=a2_ (Kd.at_int (Kd.R_reads' aw.out).2.2 (rd l2 aa));cases e793));go_ret;exact ⟨by first|rfl|(simp [errW_none,errW_some,Option.map_none,Option.map_some]<;>rfl)|(simp only [←aq];first|rfl|(simp [errW_none,errW_some,Option.map_none,Option.map_some]<;>rfl))|(simp [*,errW_none,errW_some]<;>rfl),(tb_ HB.out)⟩
    ·
     rw [if_neg c13] at H;have a6:((wrap64 (af*(au))) == 0)=false:=beq_eq_false_iff_ne.mpr c13;have bi:((wrap64 (af*(au))) != 0)=true:=bne_iff_ne.mpr c13;have H':=A_ H;clear H;obtain ⟨p788,q788,ad788,e788,ae⟩:=a2_ (Kd.at_int HR2.out aa);cases e788;replace ae:=(HB.out.cell (World.block_lt_of_cell? w _ ae)).trans ae;obtain ⟨i017,hi017,_,hsz17,_⟩:=info_parts info3;obtain ⟨hcut17,hA17,hC17⟩:=print_take_of (P:=Tryz.prog) (Value.int .i64) 0 29 3 .i64 Tryz.underlying29 hi017 hsz17 (some ad788) c2 l2 aa (od_) (od_) HC2.out;have HR789:=A_ (Kd.C_of_reads (h1:=fun _=>rfl) (hA17 _ (Kd.reads_of_C HR2.out)));have HC789:=A_ hC17;clear hA17 hC17 hi017 hsz17;go_wp2_with (first|((with_reducible refine gc_ 79 ?_);refine goesL_ (some 23) rfl rfl Tryz.func79 (by kernel_rfl) rfl #[.slice A0 l0.length c0,.slice A1 l1.length c1,.slice (some ad788) (l2.take (aa:Int).toNat).length c2] rfl (by (try simp only [List.map_toArray,List.map_cons,List.map_nil]);first|done|(rw [show (l2.take (aa:Int).toNat).length=aa.toNat from (by rw [List.length_take];have h_:(aa:Int)≤(l2.length:Int):=od_;omega)]<;>rfl)|rfl|(simp only [List.length_drop,List.length_take];rfl)) ?_;(with_reducible refine (impl_after.calls k1 _ _ l0 _ _ l1 _ _ (l2.take (aa:Int).toNat) aj _ ?s1 ?s2 ?s3 ?s4 ?s5 ?s6 A9.out).mono ?_);(case s1=>exact tD_);(case s2=>exact HC0.out);(case s3=>exact tD_);(case s4=>exact HC1.out);(case s5=>exact tD_);(case s6=>exact HC789.out);rintro e b2 ⟨bz,rfl,ho0,hb⟩;refine ⟨_,rfl,?_⟩;have aw:=rx_ ho0 HB;replace HB:=bs_ HB hb;(try clear hb ho0);obtain ⟨bR,bS,bC⟩:=Kd.R_slice aw.out;subst bC;obtain ⟨p793,q793,ad793,e793,aX⟩:=a2_ (Kd.at_int (Kd.R_reads' aw.out).2.2 (rd l2 aa));cases e793))
     go_roundg k1
     case measure=>have:=HK1.out;omega
     case rel=>exact ⟨(wrap64 (af*(au))),(wrap64 (aa+1)),(by first|rfl|(simp;done)|(simp only [←aq]<;>(first|rfl|simp))|(simp [*];done)),tx_,H',⟨by have:=HK1.out;omega⟩,⟨(tb_ HB.out)⟩⟩
   ·
    obtain rfl:=Option.some.inj H;go_wp2;go_ret;exact ⟨tw_,(tb_ HB.out)⟩
mutual
def impl_SameRule.j0:Nat→Int→Int→Bool→Option ((List (List Int)))
 |0,_,_,_=>none
 |k+1,x0,x1,x18=>if x18=true then (some ([]:List (List Int))) else (impl_SameRule.l0 k x0 x1 (([]:List (List Int))) x0 0)
def impl_SameRule.l0:Nat→Int→Int→List (List Int)→Int→Int→Option ((List (List Int)))
 |0,_,_,_,_,_=>none
 |k+1,x0,x1,x5,x20,x21=>if x21<x20 then (if 0≤x0 then (if (x0:Int).toNat≤35184372088832 then ((some (List.replicate (x0:Int).toNat 0:List Int)).bind fun ah=>(if 0≤x21 then (if x21<(ah.length:Int) then (if x5.length<5864062014805 then (impl_SameRule.l0 k x0 x1 (x5++[(ah.set (x21:Int).toNat x1)]) x20 (wrap64 (x21+1))) else (none)) else (none)) else (none))) else (none)) else (none)) else (some x5)
end
def impl_SameRule.f (k:Nat) (a0:Int) (a1:Int):Option ((List (List Int))):=(impl_coloursOk.f a0).bind fun aK=>(if aK=true then (if a1<(-1) then (impl_SameRule.j0 k a0 a1 true) else (impl_SameRule.j0 k a0 a1 (decide (a1>3)))) else (impl_SameRule.j0 k a0 a1 true))
theorem impl_SameRule.mono_l:∀k,(∀y0 y1 y2,LeO (impl_SameRule.j0 k y0 y1 y2) (impl_SameRule.j0 (k+1) y0 y1 y2))∧(∀y0 y1 y2 y3 y4,LeO (impl_SameRule.l0 k y0 y1 y2 y3 y4) (impl_SameRule.l0 (k+1) y0 y1 y2 y3 y4))
 |0=>⟨fun _ _ _ r h=>by simp [impl_SameRule.j0] at h,fun _ _ _ _ _ r h=>by simp [impl_SameRule.l0] at h⟩
 |k+1=>by
  obtain ⟨ih0,ih1⟩:=impl_SameRule.mono_l k
  refine ⟨?_,?_⟩
  ·
   intro y0 y1 y2
   unfold impl_SameRule.j0
   repeat' (with_reducible first|exact ih0 _ _ _|exact ih1 _ _ _ _ _|exact mr_|exact mn_|refine mi_ ?_ ?_|refine mb_ ?_ (fun _=>?_))
  ·
   intro y0 y1 y2 y3 y4
   unfold impl_SameRule.l0
   repeat' (with_reducible first|exact ih0 _ _ _|exact ih1 _ _ _ _ _|exact mr_|exact mn_|refine mi_ ?_ ?_|refine mb_ ?_ (fun _=>?_))
theorem impl_SameRule.mono:∀a0 a1 k,LeO (impl_SameRule.f k a0 a1) (impl_SameRule.f (k+1) a0 a1):=by
 intro a0 a1 k;obtain ⟨ih0,ih1⟩:=impl_SameRule.mono_l k;unfold impl_SameRule.f;repeat' (with_reducible first|exact ih0 _ _ _|exact ih1 _ _ _ _ _|exact mr_|exact mn_|refine mi_ ?_ ?_|refine mb_ ?_ (fun _=>?_))
theorem impl_SameRule.calls (k:Nat) (a0:Int) (a1:Int) (r:List (List Int)) (w:World) (h:impl_SameRule.f k a0 a1=some r) :
  Calls Tryz.prog 60 #[.int .i64 a0,.int .i64 a1] w fun e w'=>∃v0_:Value,e=.returned (v0_)∧Kd.S (Kd.slice 3 (Kd.int .i64)) 29 w' w.heap.size (fun _=>True) v0_ r∧Below w.heap.size w w':=by
 have HB:=A_ (Below.refl w.heap.size w);have H:=h;clear h;unfold impl_SameRule.f at H;have HC3:=A_ H;clear H;go_enter Tryz.func60,Tryz.ntmps60
 go_upto_region 1 with (fail)
 go_cut [18] (fun bU wc=>∃(kq:Nat) (ay:Bool),bU=.bool ay∧Aside0 (impl_SameRule.j0 kq a0 a1 ay=some r)∧Aside0 (kq≤k)∧Aside0 (Below w.heap.size w wc))
 case first =>
  have H:=HC3.out;clear HC3;obtain ⟨aK,A4,H⟩:=bnd_ H;(try dsimp only at H);by_cases c5:aK=true
  ·
   subst c5;replace H:=bt_ H
   replace H:=it_ H;rcases H with ⟨ao,H⟩|⟨ao,H⟩
   ·
    (first|rw [ao]|(simp only [i64_w,i32_w];rw [ao])|skip);have H':=A_ H;clear H;go_wp2_with (first|((with_reducible refine gc_ 47 ?_);refine gl_ (some 9) Tryz.func47 #[.int .i64 a0] ?_;(with_reducible refine (impl_coloursOk.calls a0 true _ A4.out).mono ?_);rintro e w' ⟨rfl,⟨nd,rfl⟩⟩;refine ⟨_,rfl,?_⟩));go_meet
    case rel=>exact ⟨_,(true),tx_,H',⟨by first|omega|exact Nat.le_refl _⟩,⟨(tb_ HB.out)⟩⟩
   ·
    (first|rw [ao]|(simp only [i64_w,i32_w];rw [ao])|skip);have H':=A_ H;clear H;go_wp2_with (first|((with_reducible refine gc_ 47 ?_);refine gl_ (some 9) Tryz.func47 #[.int .i64 a0] ?_;(with_reducible refine (impl_coloursOk.calls a0 true _ A4.out).mono ?_);rintro e w' ⟨rfl,⟨nd,rfl⟩⟩;refine ⟨_,rfl,?_⟩));go_meet
    case rel=>exact ⟨_,(decide (a1>3)),tx_,H',⟨by first|omega|exact Nat.le_refl _⟩,⟨(tb_ HB.out)⟩⟩
  ·
   replace c5:=Bool.eq_false_iff.mpr c5;subst c5;replace H:=bf_ H
   have H':=A_ H;clear H;go_wp2_with (first|((with_reducible refine gc_ 47 ?_);refine gl_ (some 9) Tryz.func47 #[.int .i64 a0] ?_;(with_reducible refine (impl_coloursOk.calls a0 false _ A4.out).mono ?_);rintro e w' ⟨rfl,⟨nd,rfl⟩⟩;refine ⟨_,rfl,?_⟩));go_meet
   case rel=>exact ⟨_,(true),tx_,H',⟨by first|omega|exact Nat.le_refl _⟩,⟨(tb_ HB.out)⟩⟩
 case rest =>
  clear HC3;obtain ⟨kq,ay,rfl,HA,HJ2,HB⟩:=hcut
  cases kq with
  |zero=>exact absurd HA.out (by simp [impl_SameRule.j0])
  |succ kj2 =>
   have H:=HA.out;clear HA;simp only [impl_SameRule.j0] at H;by_cases c7:ay=true
   ·
    subst c7;replace H:=bt_ H
    obtain rfl:=Option.some.inj H;go_wp2;go_ret;exact ⟨_,tw_,by first|exact Kd.S_nil _ _ _ _ _|exact Kd.N_nil _ _ _ _ _|exact Kd.V_nil _ _ _ _ _|exact Kd.Q_nil _ _ _ _ _|exact Kd.R_nil _ _ _ _ _,(tb_ HB.out)⟩
   ·
    replace c7:=Bool.eq_false_iff.mpr c7;subst c7;replace H:=bf_ H
    obtain ⟨bj,aM⟩:∃y_:List (List Int),y_=(([]:List (List Int))):=⟨_,rfl⟩
    replace H:(impl_SameRule.l0 kj2 a0 a1 bj a0 0)=some r:=yq_ aM H;have a7:=A_ aM;clear aM;have H':=A_ H;clear H;go_wp2_with (first|((with_reducible refine gd_ 19 ?_);refine Kd.S_lit (Kd.slice 3 (Kd.int .i64)) _ 29 ?hg (N:=19) ?hd (xs:=([]:List (List Int))) (inner:=[]) (ok:=fun _=>True) (okp:=fun _=>True) ?hr ?hp (fun _ hk=>hk) trivial (Below.refl _ _) (Nat.le_refl _) (by simp) ?_;(case hd=>rfl);(case hg=>rfl);(case hr=>first|(go_simp;done)|(go_simp;rfl));(case hp=>exact (Reps.none _ _));intro bV w8 ho9 hb hg_ hnew_;clear hg_ hnew_;(first|rw [←a7.out] at ho9|(simp only [Int.reduceToNat] at ho9;rw [←a7.out] at ho9));have bk:=A_ (Kd.S_lower ho9 (below_size (tb_ HB.out)));replace HB:=bs_ HB hb;clear hb ho9))
    go_loopg [5,21] kj2 (fun kq v5 bW w'=>∃(ap:List (List Int)) (ab:Int),bW=.int .i64 ab∧Aside0 (impl_SameRule.l0 kq a0 a1 ap a0 ab=some r)∧Aside0 (kq≤kj2)∧Aside0 (Kd.S (Kd.slice 3 (Kd.int .i64)) 29 w' w.heap.size (fun _=>True) v5 ap)∧Aside0 (Below w.heap.size w w'))
    case atStart=>exact ⟨(bj),(0),tx_,H',⟨Nat.le_refl _⟩,⟨rS_ bk.out⟩,⟨(tb_ HB.out)⟩⟩
    case round =>
     clear H';(try clear c7);obtain ⟨ap,ab,rfl,HA,HK2,av,HB⟩:=hrel
     cases gk with
     |zero=>exact absurd HA.out (by simp [impl_SameRule.l0])
     |succ k2 =>
      have H:=HA.out;clear HA;simp only [impl_SameRule.l0] at H;replace H:=it_ H;rcases H with ⟨a5,H⟩|⟨a5,H⟩
      ·
       replace H:=i0_ H;obtain ⟨c11,H⟩:=H;have bh:=eq_true c11;have bH:decide (0≤a0)=true:=decide_eq_true c11;clear c11;replace H:=i0_ H;obtain ⟨c12,H⟩:=H;have bI:=eq_true c12;have bJ:decide ((a0:Int).toNat≤35184372088832)=true:=decide_eq_true c12;clear c12;obtain ⟨ah,aN⟩:∃y_:List Int,y_=(List.replicate (a0:Int).toNat 0):=⟨_,rfl⟩
       replace H:(if 0≤ab then (if ab<(ah.length:Int) then (if ap.length<5864062014805 then (impl_SameRule.l0 k2 a0 a1 (ap++[(ah.set (ab:Int).toNat a1)]) a0 (wrap64 (ab+1))) else (none)) else (none)) else (none))=some r:=yq_ aN H;have a8:=A_ aN;clear aN;replace H:=in_ H;obtain ⟨a6,H⟩:=H;replace H:=in_ H;obtain ⟨bK,H⟩:=H;obtain ⟨aY,aQ⟩:∃y_:List Int,y_=(ah.set (ab:Int).toNat a1):=⟨_,rfl⟩
       replace H:(if ap.length<5864062014805 then (impl_SameRule.l0 k2 a0 a1 (ap++[aY]) a0 (wrap64 (ab+1))) else (none))=some r:=yq_ aQ H;have bl:=A_ aQ;clear aQ;replace H:=il_ H;obtain ⟨bm,H⟩:=H;obtain ⟨bn,aR⟩:∃y_:List (List Int),y_=(ap++[aY]):=⟨_,rfl⟩
       replace H:(impl_SameRule.l0 k2 a0 a1 bn a0 (wrap64 (ab+1)))=some r:=yq_ aR H;have bo:=A_ aR;clear aR;have H':=A_ H;clear H;go_wp2_with (first|((with_reducible refine gd_ 25 ?_);refine Kd.R_make (Kd.int .i64) _ 3 rfl (N:=25) rfl 29 _ _ rfl a0 rfl rfl Tryz.underlying29 (.int .i64 0) 8 info3 rfl (by decide) (by omega) 0 (ok:=fun _=>True) (okp:=fun _=>True) rfl (fun _ hk=>hk) trivial (od_) (Nat.le_trans (Nat.mul_le_mul_right _ (od_:a0.toNat≤35184372088832)) (by omega)) (Below.refl _ _) (Nat.le_refl _) ?_;intro bX bL ho18 hb hg_ hnew_;clear hg_ hnew_;(first|rw [←a8.out] at ho18|(simp only [Int.reduceToNat] at ho18;rw [←a8.out] at ho18));replace av:=A_ (Kd.S_elder' (rS_ av.out) (Kd.R_base ho18) hb);have ak:=rx_ ho18 HB;replace HB:=bs_ HB hb;clear hb ho18;have p15:0≤(ab:Int):=od_;have q15:(ab:Int)<((ah.length:Int):Int):=od_;obtain ⟨go15,aU,bp,bq,gl15,cl15,HG15⟩:=Kd.R_form ak.out (by omega);(first|cases bp|(injection bp with ea_ en_ ec_;(first|subst ea_|(injection ea_ with ea_;subst ea_));subst ec_;clear en_));have GB15:=A_ bq;have GG15:=A_ HG15;clear bq gl15 HG15;obtain ⟨bD,hf15_0⟩:=Kd.R_celln 0 ak.out (ab:Int) p15 q15;replace p15:=eq_true p15;replace q15:=eq_true q15;obtain ⟨hy19_,hz19_⟩:=Kd.R_celln 0 ak.out (ab:Int) (od_) (od_);have HP19:=Kd.R_putg ak.out (ab:Int) a1)|((with_reducible refine gate_store (t:=3) (p:=29) rfl ?_);refine store_event (t:=3) (p:=29) (v:=?vo_w20) (w1:=(bL.setCell ⟨go15,(ab:Int).toNat,none⟩ (.int .i64 a1))) ?hg ?ho ?hn ?hr ?_;(case ho=>rfl);(case hg=>rfl);(case hn=>rfl);(case hr=>first|(go_simp;done)|(go_simp;rfl));intro bE hw;have hg:bL.grownBy bE (some go15):=(by rw [hw];exact HP19.2);have hp_:Kd.R (Kd.int .i64) 3 bE w.heap.size (fun _=>True) (.slice (some ⟨go15,0,none⟩) ah.length aU) aY:=(by rw [hw,bl.out];exact HP19.1);clear HP19;replace av:=A_ (Kd.S_after (v:=(.slice (some ⟨go15,0,none⟩) ah.length aU)) (v1:=(.slice (some ⟨go15,0,none⟩) ah.length aU)) (ok:=(fun _=>True)) (rS_ av.out) hg (.inl rfl));replace ak:=A_ (hp_);replace HB:=A_ ((by rw [hw];exact below_set (HB.out) GB15.out:Below w.heap.size w bE));clear hg hw hp_)|((with_reducible refine gate_builtin (b:=.append) (xs:=#[.tmp 30,.tmp 32]) rfl ?_);at_builtin;refine Kd.S_append (Kd.slice 3 (Kd.int .i64)) (w0:=w) w.heap.size rfl (.tmp 30) (.tmp 32) 92 29 (.slice none 0 0) 24 rfl Tryz.underlying92 info29 rfl (by decide) (by omega) u5 ap aY [.slice (some ⟨go15,0,none⟩) ah.length aU] (fun _=>True) (fun k_=>some k_=(.slice (some ⟨go15,0,none⟩) ah.length aU:Value).ownBlock) rfl rfl ?aP (fun k_ hk_=>((Kd.R_mono (ok':=fun k_=>((fun _=>True)) k_∧some k_≠(u5:Value).ownBlock) (Kd.R_apart' (ak.out) (Kd.S_typed av.out) (by decide)) (fun k_ hk=>⟨trivial,hk.2⟩))).1 k_ hk_.symm) ?aF ?aO ?aB ?aS ?aL ?_;(case aP=>exact Kd.M_row (Kd.R_mono (Kd.R_tight rfl (Kd.R_mono (ok':=fun k_=>((fun _=>True)) k_∧some k_≠(u5:Value).ownBlock) (Kd.R_apart' (ak.out) (Kd.S_typed av.out) (by decide)) (fun k_ hk=>⟨trivial,hk.2⟩))) (fun _ h_=>h_)));(case aB=>exact (tb_ HB.out));(case aF=>exact (fun _ _=>trivial));(case aO=>exact (by refine qS_ ?_;exact Kd.S_mono av.out (fun k_ hk=>⟨trivial,fun e_=>hk.2 e_⟩)));(case aS=>exact (below_size (tb_ HB.out)));(case aL=>have:=bm.out;omega);intro bZ b3 ho hb hg hat;rw [←bo.out] at ho;replace HB:=A_ (hb);have br:=A_ (ho);clear av ak ho hb hg hat))
       go_roundg k2
       case measure=>have:=HJ2.out;have:=HK2.out;omega
       case rel=>exact ⟨(bn),(wrap64 (ab+1)),tx_,H',⟨by have:=HJ2.out;have:=HK2.out;omega⟩,⟨rS_ br.out⟩,⟨(tb_ HB.out)⟩⟩
      ·
       obtain rfl:=Option.some.inj H;go_wp2;go_ret;exact ⟨_,tw_,by refine qS_ ?_;exact av.out,(tb_ HB.out)⟩
def impl_PlaceOk.j0:Nat→Bool→List Int→Int→List Int→Option (Bool)
 |0,_,_,_,_=>none
 |k+1,x25,az,aZ,a3=>if x25=true then (some false) else ((impl_SameRule.f k (az.length:Int) aZ).bind fun bs=>((impl_ruleWays.f k az bs a3).bind fun bu=>(some (decide (bu>0)))))
def impl_PlaceOk.f (k:Nat) (ag:List Int) (a0_1:Int) (ai:List Int):Option (Bool):=(impl_StartOk.f k ag).bind fun be=>(if be=true then (if a0_1<(-1) then (impl_PlaceOk.j0 k true ag a0_1 ai) else (if a0_1>3 then (impl_PlaceOk.j0 k true ag a0_1 ai) else ((impl_WordOk.f k (ag.length:Int) ai).bind fun bf=>(impl_PlaceOk.j0 k (!bf) ag a0_1 ai)))) else (impl_PlaceOk.j0 k true ag a0_1 ai))
def impl_PlaceOk.T3:Bool×List (List Nat×List Nat):=(true,[([],[]),([0],[0]),([],[]),([2],[2]),([3],[3]),([],[]),([5],[5]),([4,6],[4,6]),([],[]),([8],[8]),([1,7,9,7],[1,7,9]),([10],[10]),([11,10,0,1,2,3,4,5,6,7,8,9,10,11],[11])])
def impl_PlaceOk.B3:List Nat:=[0,1,0,4,12,0,32,124,0,256,1023,2047,4095]
theorem impl_PlaceOk.tab3:rtab .any (opsOf Tryz.f32 3)=impl_PlaceOk.T3:=by kernel_rfl
theorem impl_PlaceOk.bits3:waitsOk impl_PlaceOk.T3.2 impl_PlaceOk.B3=true:=by kernel_rfl
theorem impl_PlaceOk.z0 {P_:Prop} (h_:P_:=by go_wp2_with (first|((with_reducible refine gc_ 57 ?_);refine ca_ (some 5) Tryz.func57 _ (impl_StartOk.calls k aD aE _ _ _ (gt_ st) (gt_ st) A_5.out) ?_;rintro e w_ ⟨rfl,hb⟩;refine ⟨_,rfl,?_⟩;replace hb:=hb.below;replace st:=st.ev hb;clear cl hb;have cl:=cl_ st)|((with_reducible refine gc_ 58 ?_);refine gate_guard (by rfl) ?_;dsimp only;refine ca_ (some 23) Tryz.func58 _ (impl_WordOk.calls k _ aG aH _ _ _ (gt_ st) (gt_ st) A_23.out) ?_;rintro e w_ ⟨rfl,hb⟩;refine ⟨_,rfl,?_⟩;replace hb:=hb.below;replace st:=st.ev hb;clear cl hb;have cl:=cl_ st));first|(go_meet;(case rel=>exact ⟨_,(true),tx_,H',⟨by first|omega|exact Nat.le_refl _⟩,st.en⟩))|(go_meet;(case rel=>exact ⟨_,(!bf),tx_,H',⟨by first|omega|exact Nat.le_refl _⟩,st.en⟩))):P_:=h_
theorem impl_PlaceOk.calls (k:Nat) (aD:Option Addr) (aE:Nat) (ag:List Int) (a0_1:Int) (aG:Option Addr) (aH:Nat) (ai:List Int) (r:Bool) (w:World) (hr0_0:Kd.C (Kd.int .i64) w aD ag.length ag) (hc0_0:ag.length≤aE) (hr0_2:Kd.C (Kd.int .i64) w aG ai.length ai) (hc0_2:ai.length≤aH) (h:impl_PlaceOk.f k ag a0_1 ai=some r) :
  Calls Tryz.prog 32 #[.agg #[.slice aD ag.length aE,.int .i64 a0_1,.slice aG ai.length aH]] w fun e w'=>e=.returned (.bool r)∧Below w.heap.size w w':=by
 have hu31:=Tryz.underlying31;have st:=((ST.nil w).c hr0_0 hc0_0).c hr0_2 hc0_2;have s0:=st;have cl:=cl_ st;have H:=h;clear h;unfold impl_PlaceOk.f at H;go_enter Tryz.func32,Tryz.ntmps32;have HC3:=A_ H;clear H
 go_upto_region 1 with (first|((with_reducible refine gd_ 1 ?_);refine al_ st ?_;clear st cl;intro g1 w_ st;have cl:=cl_ st))
 (try simp only [Act.put,sa_,sb_,sc_])
 go_cut [25] (fun b0 wc=>∃(kq:Nat) (aA:Bool),b0=.bool aA∧Aside0 (impl_PlaceOk.j0 kq aA ag a0_1 ai=some r)∧Aside0 (kq≤k)∧ST w [CA (Kd.int .i64) w aD ag aE,CA (Kd.int .i64) w aG ai aH] [Bx g1 #[.slice aD ag.length aE,.int .i64 a0_1,.slice aG ai.length aH] 31] wc)
 case first =>
  have H:=HC3.out;clear HC3;obtain ⟨be,A_5,H⟩:=bnd_ H;rcases bx_ be with rfl|rfl
  ·
   replace H:=bt_ H;replace H:=it_ H;rcases H with ⟨an,H⟩|⟨an,H⟩
   ·
    (first|rw [an]|(simp only [i64_w,i32_w];rw [an])|skip);have H':=A_ H;clear H;exact impl_PlaceOk.z0
   ·
    (first|rw [an]|(simp only [i64_w,i32_w];rw [an])|skip);replace H:=ig_ H;rcases H with ⟨aC,H⟩|⟨aC,H⟩
    ·
     have H':=A_ H;clear H;exact impl_PlaceOk.z0
    ·
     obtain ⟨bf,A_23,H⟩:=bnd_ H;have H':=A_ H;clear H;exact impl_PlaceOk.z0
  ·
   replace H:=bf_ H;have H':=A_ H;clear H;exact impl_PlaceOk.z0
 case rest =>
  clear HC3 st cl;obtain ⟨kq,aA,rfl,HA,HJ2,st⟩:=hcut;have cl:=cl_ st
  cases kq with
  |zero=>exact absurd HA.out (by simp [impl_PlaceOk.j0])
  |succ kj2 =>
   have H:=HA.out;clear HA;simp only [impl_PlaceOk.j0] at H;rcases bx_ aA with rfl|rfl
   ·
    replace H:=bt_ H;obtain rfl:=Option.some.inj H;go_wp2;go_ret;exact ⟨tw_,st.b⟩
   ·
    replace H:=bf_ H;obtain ⟨bs,A_33,H⟩:=bnd_ H;obtain ⟨bu,A_36,H⟩:=bnd_ H;obtain rfl:=Option.some.inj H;(try go_wp2);(all_goals (refine rg_ st [] ?_;clear st cl;intro w_ st hs;have cl:=cl_ st;refine with_tabW impl_PlaceOk.tab3 impl_PlaceOk.bits3 (fun HT_ HW_=>?_);refine pv_ 0 ?_;refine pv_ 2 ?_;refine pv_ 5 ?_;refine pv_ 8 ?_;refine tu_ 1 ?_;refine tu_ 3 ?_;refine tu_ 6 ?_;refine tu_ 9 ?_;refine pv_ 4 ?_;refine ov_ 7 (fun K hK=>?_);refine ca2_ (some 33) Tryz.func60 _ (impl_SameRule.calls kj2 _ _ _ _ A_33.out) ?_;rintro e w_ ⟨v0,rfl,h0,hb⟩;refine ⟨_,rfl,?_⟩;obtain ⟨B33_0,d33_0,rfl⟩:=Kd.S_slice h0;replace st:=st.p1 hb (st.ms h0);clear cl hb h0;have cl:=cl_ st;refine hK.out _ _ st.en (fun hs=>?_);clear hK K;refine nr_ 33 ?_;refine ov_ 10 (fun K hK=>?_);refine ca2_ (some 36) Tryz.func59 _ (impl_ruleWays.calls kj2 aD aE _ B33_0 d33_0 _ aG aH _ _ _ (gt_ st) (gt_ st) (gt_ st) (gt_ st) (gt_ st) (gt_ st) A_36.out) ?_;rintro e w_ ⟨rfl,hb⟩;refine ⟨_,rfl,?_⟩;replace st:=st.ev hb;clear cl hb;have cl:=cl_ st;refine hK.out _ _ st.en (fun hs=>?_);clear hK K;refine nr_ 36 ?_;refine pv_ 11 ?_;refine pv_ 12 ?_;refine done_ (done_of HT_.out (by kernel_rfl)) ?_;all_goals (try go_wp2)));go_ret;exact ⟨tw_,st.b⟩
def strconv_Itoa.f (a0:Int):Option (ByteArray):=if -9223372036854775808≤a0∧a0≤9223372036854775807 then some ⟨(Lib.itoa a0).toArray⟩ else none
theorem strconv_Itoa.calls (a0:Int) (r:ByteArray) (w:World) (hG:GWb w) (h:strconv_Itoa.f a0=some r) :
  Calls Tryz.prog 53 #[.int .i64 a0] w fun e w'=>e=.returned (.string r)∧Below w.heap.size w w':=by
 unfold strconv_Itoa.f at h;split at h
 ·
  rename_i hb;obtain rfl:=Option.some.inj h;refine (Sh.Tryz.strconv_Itoa a0 hb.1 hb.2 w hG.tab).mono fun e w' ⟨he,k,os,hw⟩=>⟨he,hw ▸ Lib.below_grow _ w (Nat.le_refl _) k os⟩
 ·
  cases h
def strings_Join.f (l0:List ByteArray) (a1:ByteArray):Option (ByteArray):=if l0.length≤140737488355328∧(Lib.join (l0.map (·.data.toList)) a1.data.toList).length≤140737488355328 then some ⟨(Lib.join (l0.map (·.data.toList)) a1.data.toList).toArray⟩ else none
theorem strings_Join.calls (A0:Option Addr) (c0:Nat) (l0:List ByteArray) (a1:ByteArray) (r:ByteArray) (w:World) (hr0:Kd.C Kd.string w A0 l0.length l0) (hc0:l0.length≤c0) (h:strings_Join.f l0 a1=some r) :
  Calls Tryz.prog 75 #[.slice A0 l0.length c0,.string a1] w fun e w'=>e=.returned (.string r)∧Below w.heap.size w w':=by
 unfold strings_Join.f at h;split at h
 ·
  rename_i hb;obtain rfl:=Option.some.inj h;rcases Nat.eq_zero_or_pos l0.length with h0|h0
  ·
   obtain rfl:l0=[]:=List.eq_nil_of_length_eq_zero h0;exact (Sh.Tryz.strings_Join_none A0 c0 a1 w).mono fun e w' ⟨he,hw⟩=>⟨he,hw ▸ Below.refl _ _⟩
  ·
   obtain ⟨ad,rfl,hc⟩:=hr0.2.2 h0
   have hcell:∀(j:Nat) x,l0[j]?=some x→w.cell? (ad.add j)=some (.string x):=by
    intro j x hj;obtain ⟨c,hc1,hc2,hc3⟩:=hc j _ hj;have e1:c=[.string x]:=hc2;have:=hc3 0 _ (by rw [e1];rfl);simpa [Kd.string,Kd.scalar] using this
   have hs:=hcell 0 _ (List.getElem?_eq_getElem h0)
   have hsp:ad.spot=none:=by
    cases hq:ad.spot with
    |none=>rfl
    |some q=>simp [World.cell?,Addr.add,hq] at hs;split at hs<;>simp at hs
   have hlt:=World.block_lt_of_cell? _ _ hs;obtain ⟨b,o,sp⟩:=ad;simp only at hsp;subst hsp;exact Sh.Tryz.strings_Join b o c0 l0 a1 w (fun j x hj=>by have:=hcell j x hj;unfold Addr.add at this;split at this<;>simp_all) (by simpa [Addr.add] using hlt) hb.1 hc0 hb.2
 ·
  cases h
def impl_rowText.l0:Nat→List ByteArray→List Int→Int→Int→Option (ByteArray)
 |0,_,_,_,_=>none
 |k+1,x3,x7,x8,x9=>if x9<x8 then (if 0≤x9 then (if x9<(x7.length:Int) then ((strconv_Itoa.f (rd x7 x9)).bind fun aV=>(if x3.length<8796093022208 then (impl_rowText.l0 k (x3++[aV]) x7 x8 (wrap64 (x9+1))) else (none))) else (none)) else (none)) else ((strings_Join.f x3 (⟨#[44]⟩:ByteArray)).bind fun bv=>(some bv))
def impl_rowText.f (k:Nat) (l0:List Int):Option (ByteArray):=impl_rowText.l0 k (([]:List ByteArray)) l0 (l0.length:Int) 0
theorem impl_rowText.z0 {P_:Prop} (h_:P_:=by go_wp2_with (first|((with_reducible refine gd_ 11 ?_);obtain ⟨p_,q_,ad_,e_,x0⟩:=a2_ (Kd.at_int (gC_ st (Kd.int .i64) A0 l0) am);have ix_:=ix1_ Tryz.underlying29 e_ p_ q_ (c:=c0);clear e_;go_step)|((with_reducible refine gc_ 53 ?_);refine ca_ (some 15) Tryz.func53 _ (strconv_Itoa.calls _ _ _ (GWb.below HG.out st.b) A_15.out) ?_;rintro e w_ ⟨rfl,hb⟩;refine ⟨_,rfl,?_⟩;replace st:=st.ev hb;clear cl hb;have cl:=cl_ st)|((with_reducible refine gd_ 17 ?_);refine ap_ aW ax aV [.string aV] ((.string ⟨#[]⟩)) 16 st Tryz.underlying95 ?_ (hl:=by have:=bF.out;omega);clear st cl;intro P17 q17 w_ st;have cl:=cl_ st)|((with_reducible refine gc_ 75 ?_);refine ca_ (some 20) Tryz.func75 _ (strings_Join.calls aW a4 _ _ _ _ (gtl_ st) (gtl_ st) A_20.out) ?_;rintro e w_ ⟨rfl,hb⟩;refine ⟨_,rfl,?_⟩;replace st:=st.ev hb;clear cl hb;have cl:=cl_ st));first|(go_roundg k1;(case measure=>have:=HK1.out;omega);(case rel=>exact ⟨((ax++[aV])),(wrap64 (am+1)),P17,q17,tx_,tx_,H',⟨by have:=HK1.out;omega⟩,st.en⟩))|(go_ret;exact ⟨tw_,st.b⟩)):P_:=h_
theorem impl_rowText.calls (k:Nat) (A0:Option Addr) (c0:Nat) (l0:List Int) (r:ByteArray) (w:World) (hr0:Kd.C (Kd.int .i64) w A0 l0.length l0) (hc0:l0.length≤c0) (hG:GWb w) (h:impl_rowText.f k l0=some r) :
  Calls Tryz.prog 52 #[.slice A0 l0.length c0] w fun e w'=>e=.returned (.string r)∧Below w.heap.size w w':=by
 have HG:=A_ hG;clear hG;have st:=(ST.nil w).c hr0 hc0;have s0:=st;have cl:=cl_ st;have H:=h;clear h;unfold impl_rowText.f at H;go_enter Tryz.func52,Tryz.ntmps52;have H':=A_ H;clear H;go_wp2_with (first|((with_reducible refine gd_ 6 ?_);refine nwl_ Kd.string 9 (([]:List ByteArray):List ByteArray) [] st ?_;clear st cl;intro B6_0 d6_0 w_ st;have cl:=cl_ st))
 go_loopg [3,9] k (fun kq v3 v9 w'=>∃(ax:List ByteArray) (am:Int) (aW:Option Addr) (a4:Nat),v3=.slice aW ax.length a4∧v9=.int .i64 am∧Aside0 (impl_rowText.l0 kq ax l0 (l0.length:Int) am=some r)∧Aside0 (kq≤k)∧ST w [CA (Kd.int .i64) w A0 l0 c0] [AR Kd.string 9 w.heap.size (.slice aW ax.length a4) ax] w')
 case atStart=>exact ⟨(([]:List ByteArray)),(0),B6_0,d6_0,tx_,tx_,H',⟨Nat.le_refl _⟩,st.en⟩
 case round =>
  clear H' st cl;obtain ⟨ax,am,aW,a4,rfl,rfl,HA,HK1,st⟩:=hrel;have cl:=cl_ st
  cases gk with
  |zero=>exact absurd HA.out (by simp [impl_rowText.l0])
  |succ k1 =>
   have H:=HA.out;clear HA;simp only [impl_rowText.l0] at H;replace H:=it_ H;rcases H with ⟨bG,H⟩|⟨bG,H⟩
   ·
    replace H:=in_ H;obtain ⟨an,H⟩:=H;replace H:=in_ H;obtain ⟨aC,H⟩:=H;obtain ⟨aV,A_15,H⟩:=bnd_ H;replace H:=il_ H;obtain ⟨bF,H⟩:=H;have H':=A_ H;clear H;exact impl_rowText.z0
   ·
    obtain ⟨bv,A_20,H⟩:=bnd_ H;obtain rfl:=Option.some.inj H;exact impl_rowText.z0
end Go.Proofs.YtdllgaelpanblaaGreatDoor.MFnStoreSameWay
