/- Walks for FnReadJournal: a call returns what the plain function tells. Conditions: in each statement. -/
import Derived.Test.YtabknkhhlbanoaaGreatDoorMFnReadJournalx14
namespace Go.Proofs.YtabknkhhlbanoaaGreatDoor.MFnReadJournal
open Go.RowKit Go.Proofs.YtabknkhhlbanoaaGreatDoorW.PrintWords Go.Proofs.YtabknkhhlbanoaaGreatDoorW.PrintLast Go.Proofs.YtabknkhhlbanoaaGreatDoorW.PrintMore
attribute [local go_sem] max2_int min2_int max_two min_two max_three min_three max_four min_four
set_option linter.unusedVariables false
set_option linter.unusedSimpArgs false
set_option maxHeartbeats 8000000
set_option maxRecDepth 100000
def impl_StartOk.l0:Nat→List Int→List Int→Int→Int→Option (Bool)
 |0,_,_,_,_=>none
 |k+1,x0,x5,x6,x7=>if x7<x6 then (if 0≤x7 then (if x7<(x5.length:Int) then (if (rd x5 x7)>10 then (some false) else (impl_StartOk.l0 k x0 x5 x6 (wrap64 (x7+1)))) else (none)) else (none)) else ((impl_UrnOk.f k x0).bind fun aH=>(some aH))
def impl_StartOk.f (k:Nat) (l0:List Int):Option (Bool):=impl_StartOk.l0 k l0 l0 (l0.length:Int) 0
theorem impl_StartOk.calls (k:Nat) (A0:Option Addr) (c0:Nat) (l0:List Int) (r:Bool) (w:World) (hr0:Kd.C (Kd.int .i64) w A0 l0.length l0) (hc0:l0.length≤c0) (h:impl_StartOk.f k l0=some r) :
  Calls Tryz.prog 88 #[.slice A0 l0.length c0] w fun e w'=>e=.returned (.bool r)∧Drawn0 w w':=by
 have HR0:=A_ hr0;have HC0:=A_ hc0;clear hr0 hc0;have H:=h;clear h;unfold impl_StartOk.f at H;have H':=A_ H;clear H;go_enter Tryz.func88,Tryz.ntmps88;go_wp2
 go_loopg [7] k (fun kq v7 w'=>∃(ab:Int),v7=.int .i64 ab∧Aside0 (impl_StartOk.l0 kq l0 l0 (l0.length:Int) ab=some r)∧Aside0 (kq≤k)∧Drawn0 w w')
 case atStart=>exact ⟨(0),tx_,H',⟨Nat.le_refl _⟩,dz_⟩
 case round =>
  clear H';obtain ⟨ab,rfl,HA,HK1,⟨m1,rfl⟩⟩:=hrel
  cases gk with
  |zero=>exact absurd HA.out (by simp [impl_StartOk.l0])
  |succ k1 =>
   have H:=HA.out;clear HA;simp only [impl_StartOk.l0] at H;replace H:=it_ H;rcases H with ⟨aW,H⟩|⟨aW,H⟩
   ·
    replace H:=in_ H;obtain ⟨aP,H⟩:=H;replace H:=in_ H;obtain ⟨ak,H⟩:=H;replace H:=ig_ H;rcases H with ⟨ao,H⟩|⟨ao,H⟩
    ·
     obtain rfl:=Option.some.inj H;obtain ⟨p645,q645,ad645,e645,aB⟩:=a2_ (Kd.at_int HR0.out ab);cases e645;go_wp2;go_ret;exact ⟨tx_,dz_⟩
    ·
     have H':=A_ H;clear H;obtain ⟨p645,q645,ad645,e645,aB⟩:=a2_ (Kd.at_int HR0.out ab);cases e645;go_wp2
     go_roundg k1
     case measure=>have:=HK1.out;omega
     case rel=>exact ⟨(wrap64 (ab+1)),tx_,H',⟨by have:=HK1.out;omega⟩,dz_⟩
   ·
    obtain ⟨aH,A6,H⟩:=bnd_ H;(try dsimp only at H);obtain rfl:=Option.some.inj H;go_wp2_with (first|((with_reducible refine gc_ 35 ?_);refine gl_ (some 15) Tryz.func35 #[.slice A0 l0.length c0] ?_;(with_reducible refine (impl_UrnOk.calls k1 _ _ l0 aH _ ?s1 ?s2 A6.out).mono ?_);(case s1=>exact td_);(case s2=>exact HC0.out);rintro e w' ⟨rfl,⟨nd,rfl⟩⟩;refine ⟨_,rfl,?_⟩));go_ret;exact ⟨tx_,dz_⟩
def impl_WordOk.l0:Nat→Int→List Int→List Int→Int→Int→Option (Bool)
 |0,_,_,_,_,_=>none
 |k+1,x0,x1,x7,x8,x9=>if x9<x8 then (if 0≤x9 then (if x9<(x7.length:Int) then (if (rd x7 x9)<0 then (some false) else (if (rd x7 x9)≥x0 then (some false) else (impl_WordOk.l0 k x0 x1 x7 x8 (wrap64 (x9+1))))) else (none)) else (none)) else ((impl_coloursOk.f x0).bind fun aI=>(if aI=true then (some (decide ((x1.length:Int)≤6))) else (some false)))
def impl_WordOk.f (k:Nat) (a0:Int) (l1:List Int):Option (Bool):=impl_WordOk.l0 k a0 l1 l1 (l1.length:Int) 0
theorem impl_WordOk.calls (k:Nat) (a0:Int) (A1:Option Addr) (c1:Nat) (l1:List Int) (r:Bool) (w:World) (hr1:Kd.C (Kd.int .i64) w A1 l1.length l1) (hc1:l1.length≤c1) (h:impl_WordOk.f k a0 l1=some r) :
  Calls Tryz.prog 89 #[.int .i64 a0,.slice A1 l1.length c1] w fun e w'=>e=.returned (.bool r)∧Drawn0 w w':=by
 have HR1:=A_ hr1;have HC1:=A_ hc1;clear hr1 hc1;have H:=h;clear h;unfold impl_WordOk.f at H;have H':=A_ H;clear H;go_enter Tryz.func89,Tryz.ntmps89;go_wp2
 go_loopg [9] k (fun kq v9 w'=>∃(ac:Int),v9=.int .i64 ac∧Aside0 (impl_WordOk.l0 kq a0 l1 l1 (l1.length:Int) ac=some r)∧Aside0 (kq≤k)∧Drawn0 w w')
 case atStart=>exact ⟨(0),tx_,H',⟨Nat.le_refl _⟩,dz_⟩
 case round =>
  clear H';obtain ⟨ac,rfl,HA,HK1,⟨m1,rfl⟩⟩:=hrel
  cases gk with
  |zero=>exact absurd HA.out (by simp [impl_WordOk.l0])
  |succ k1 =>
   have H:=HA.out;clear HA;simp only [impl_WordOk.l0] at H;replace H:=it_ H;rcases H with ⟨aP,H⟩|⟨aP,H⟩
   ·
    replace H:=in_ H;obtain ⟨ak,H⟩:=H;replace H:=in_ H;obtain ⟨ao,H⟩:=H;replace H:=it_ H;rcases H with ⟨aC,H⟩|⟨aC,H⟩
    ·
     obtain rfl:=Option.some.inj H;obtain ⟨p647,q647,ad647,e647,aq⟩:=a2_ (Kd.at_int HR1.out ac);cases e647;go_wp2;go_ret;exact ⟨tx_,dz_⟩
    ·
     replace H:=ih_ H;rcases H with ⟨aD,H⟩|⟨aD,H⟩
     ·
      obtain rfl:=Option.some.inj H;obtain ⟨p647,q647,ad647,e647,aq⟩:=a2_ (Kd.at_int HR1.out ac);cases e647;go_wp2;go_ret;exact ⟨tx_,dz_⟩
     ·
      have H':=A_ H;clear H;obtain ⟨p647,q647,ad647,e647,aq⟩:=a2_ (Kd.at_int HR1.out ac);cases e647;go_wp2
      go_roundg k1
      case measure=>have:=HK1.out;omega
      case rel=>exact ⟨(wrap64 (ac+1)),tx_,H',⟨by have:=HK1.out;omega⟩,dz_⟩
   ·
    obtain ⟨aI,A8,H⟩:=bnd_ H;(try dsimp only at H);by_cases c9:aI=true
    ·
     subst c9;replace H:=bt_ H
     obtain rfl:=Option.some.inj H;go_wp2_with (first|((with_reducible refine gc_ 72 ?_);refine gl_ (some 22) Tryz.func72 #[.int .i64 a0] ?_;(with_reducible refine (impl_coloursOk.calls a0 true _ A8.out).mono ?_);rintro e w' ⟨rfl,⟨nd,rfl⟩⟩;refine ⟨_,rfl,?_⟩));go_ret;exact ⟨tx_,dz_⟩
    ·
     replace c9:=Bool.eq_false_iff.mpr c9;subst c9;replace H:=bf_ H
     obtain rfl:=Option.some.inj H;go_wp2_with (first|((with_reducible refine gc_ 72 ?_);refine gl_ (some 22) Tryz.func72 #[.int .i64 a0] ?_;(with_reducible refine (impl_coloursOk.calls a0 false _ A8.out).mono ?_);rintro e w' ⟨rfl,⟨nd,rfl⟩⟩;refine ⟨_,rfl,?_⟩));go_ret;exact ⟨tx_,dz_⟩
def slices_Clone_int_int.f (l0:List Int):Option (List Int):=if l0.length*8≤140737488355328 then some l0 else none
theorem slices_Clone_int_int.calls (A0:Option Addr) (c0:Nat) (l0:List Int) (r:List Int) (w:World) (hr0:Kd.C (Kd.int .i64) w A0 l0.length l0) (hc0:l0.length≤c0) (h:slices_Clone_int_int.f l0=some r) :
  Calls Tryz.prog 91 #[.slice A0 l0.length c0] w fun e w'=>∃v0_:Value,e=.returned (v0_)∧Kd.R (Kd.int .i64) 3 w' w.heap.size (fun _=>True) v0_ r∧Below w.heap.size w w':=by
 unfold slices_Clone_int_int.f at h;by_cases hl:l0.length*8≤140737488355328
 ·
  rw [if_pos hl] at h;obtain rfl:=Option.some.inj h;rcases Nat.eq_zero_or_pos l0.length with h0|h0
  ·
   obtain rfl:l0=[]:=List.eq_nil_of_length_eq_zero h0
   cases A0 with
   |none=>exact (Sh.Tryz.slices_Clone_int_nil 0 c0 w).mono fun e w' ⟨he,hw⟩=>⟨.slice none 0 0,he,Kd.R_nil _ _ _ _ _,hw ▸ Below.refl _ _⟩
   |some ad=>exact (Sh.Tryz.slices_Clone_int_zero ad c0 w).mono fun e w' ⟨v,he,ho,_,hb⟩=>⟨v,he,Kd.R_of_own (xs:=[]) ho (fun _ _=>trivial),hb⟩
  ·
   obtain ⟨ad,rfl,hc⟩:=hr0.2.2 h0
   have hcell:∀j,j<l0.length→w.cell? (ad.add j)=some (.int .i64 (l0.getD j 0)):=by
    intro j hj;obtain ⟨c,hc1,hc2,hc3⟩:=hc j _ (List.getElem?_eq_getElem hj);have e1:c=[.int .i64 l0[j]]:=hc2;have:=hc3 0 _ (by rw [e1];rfl);rw [List.getD_eq_getElem?_getD,List.getElem?_eq_getElem hj];simpa [Kd.int,Kd.scalar] using this
   have hs:=hcell 0 h0
   have hsp:ad.spot=none:=by
    cases hq:ad.spot with
    |none=>rfl
    |some q=>simp [World.cell?,Addr.add,hq] at hs;split at hs<;>simp at hs
   obtain ⟨b,o,sp⟩:=ad;simp only at hsp;subst hsp;refine (Sh.Tryz.slices_Clone_int b o l0.length c0 l0 w (Nat.le_refl _) hl (fun j hj=>by have:=hcell j hj;unfold Addr.add at this;split at this<;>simp_all)).mono fun e w' ⟨v,he,ho,_,hb⟩=>⟨v,he,Kd.R_of_own (by rw [List.take_length] at ho;exact ho) (fun _ _=>trivial),hb⟩
 ·
  rw [if_neg hl] at h;exact absurd h (by simp)
def impl_added.l0:Nat→List Int→List Int→Int→Int→Option (List Int)
 |0,_,_,_,_=>none
 |k+1,x5,x10,x11,x12=>if x12<x11 then (if 0≤x12 then (if x12<(x10.length:Int) then (if x12<(x5.length:Int) then (impl_added.l0 k (x5.set (x12:Int).toNat (wrap64 ((rd x5 x12)+(rd x10 x12)))) x10 x11 (wrap64 (x12+1))) else (none)) else (none)) else (none)) else (some x5)
def impl_added.f (k:Nat) (l0:List Int) (l1:List Int):Option (List Int):=(slices_Clone_int_int.f l0).bind fun am=>(impl_added.l0 k am l1 (l1.length:Int) 0)
theorem impl_added.z0 {P_:Prop} (h_:P_:=by go_wp2_with (first|((with_reducible refine gd_ 15 ?_);(try clear ix_);obtain ⟨p_,q_,ad_,e_,x0⟩:=a2_ (Kd.at_int (gC_ st (Kd.int .i64) A1 l1) aa);have ix_:=ix1_ Tryz.underlying28 e_ p_ q_ (c:=c1);clear e_;go_step)|((with_reducible refine gd_ 19 ?_);(try clear ix_);obtain ⟨p_,q_,ad_,e_,x0⟩:=a2_ (Kd.at_int (gK_ st (Kd.int .i64) B9_0 aj) aa);have ix_:=ix1_ (n:=am.length) Tryz.underlying28 e_ p_ (iq_ q_ (gtl_ st)) (c:=d9_0);clear e_;go_step)|((with_reducible refine gd_ 23 ?_);(try clear ix_);obtain ⟨p_,q_,ad_23,e_23,_⟩:=a2_ (Kd.at_int (gK_ st (Kd.int .i64) B9_0 aj) aa);have ix_:=ix1_ (n:=am.length) Tryz.underlying28 e_23 p_ (iq_ q_ (gtl_ st)) (c:=d9_0);replace e_23:=A_ e_23;go_step)|((with_reducible refine gs_ 23 ?_);obtain ⟨hx_,hz_⟩:=st.rc B9_0 aj aa 0 e_23.out (by first|exact od_|omega|(simp only [List.length_set];first|exact od_|omega)) (by first|exact od_|omega|(simp only [List.length_set];first|exact od_|omega));refine pt_ B9_0 aj aa (wrap64 ((rd aj aa)+(rd l1 aa))) e_23.out st (by first|exact od_|omega|(simp only [List.length_set];first|exact od_|omega)) (by first|exact od_|omega|(simp only [List.length_set];first|exact od_|omega)) ?_;clear st cl hx_ hz_;intro w_ st;have cl:=cl_ st));first|(go_roundg k1;(case measure=>have:=HK1.out;omega);(case rel=>exact ⟨((aj.set (aa:Int).toNat (wrap64 ((rd aj aa)+(rd l1 aa))))),(wrap64 (aa+1)),tx_,H',⟨by have:=HK1.out;omega⟩,st.en⟩))|(go_ret;exact ⟨.slice B9_0 am.length d9_0,tw_,gtl_ st,st.b⟩)):P_:=h_
theorem impl_added.calls (k:Nat) (A0:Option Addr) (c0:Nat) (l0:List Int) (A1:Option Addr) (c1:Nat) (l1:List Int) (r:List Int) (w:World) (hr0:Kd.C (Kd.int .i64) w A0 l0.length l0) (hc0:l0.length≤c0) (hr1:Kd.C (Kd.int .i64) w A1 l1.length l1) (hc1:l1.length≤c1) (h:impl_added.f k l0 l1=some r) :
  Calls Tryz.prog 92 #[.slice A0 l0.length c0,.slice A1 l1.length c1] w fun e w'=>∃v0_:Value,e=.returned (v0_)∧Kd.R (Kd.int .i64) 3 w' w.heap.size (fun _=>True) v0_ r∧Below w.heap.size w w':=by
 have st:=((ST.nil w).c hr0 hc0).c hr1 hc1;have s0:=st;have cl:=cl_ st;have H:=h;clear h;unfold impl_added.f at H;go_enter Tryz.func92,Tryz.ntmps92;obtain ⟨am,A_9,H⟩:=bnd_ H;have H':=A_ H;clear H;go_wp2_with (first|((with_reducible refine gc_ 91 ?_);refine ca_ (some 9) Tryz.func91 _ (slices_Clone_int_int.calls A0 c0 _ _ _ (gt_ st) (gt_ st) A_9.out) ?_;rintro e w_ ⟨v0,rfl,h0,hb⟩;refine ⟨_,rfl,?_⟩;obtain ⟨B9_0,d9_0,rfl⟩:=Kd.R_slice h0;replace st:=st.box (A:=AR (Kd.int .i64) 3 w.heap.size (.slice B9_0 am.length d9_0) am) hb (st.mr h0);clear cl hb h0;have cl:=cl_ st))
 go_loopg [12] k (fun kq aX w'=>∃(aj:List Int) (aa:Int),aX=.int .i64 aa∧Aside0 (impl_added.l0 kq aj l1 (l1.length:Int) aa=some r)∧Aside0 (kq≤k)∧ST w [CA (Kd.int .i64) w A1 l1 c1] [AR (Kd.int .i64) 3 w.heap.size (.slice B9_0 am.length d9_0) aj] w')
 case atStart=>exact ⟨(am),(0),tx_,H',⟨Nat.le_refl _⟩,st.en⟩
 case round =>
  clear H' st cl;obtain ⟨aj,aa,rfl,HA,HK1,st⟩:=hrel;have cl:=cl_ st
  cases gk with
  |zero=>exact absurd HA.out (by simp [impl_added.l0])
  |succ k1 =>
   have H:=HA.out;clear HA;simp only [impl_added.l0] at H;replace H:=it_ H;rcases H with ⟨ak,H⟩|⟨ak,H⟩
   ·
    replace H:=in_ H;obtain ⟨ao,H⟩:=H;replace H:=in_ H;obtain ⟨aC,H⟩:=H;replace H:=in_ H;obtain ⟨aD,H⟩:=H;have H':=A_ H;clear H;exact impl_added.z0
   ·
    obtain rfl:=Option.some.inj H;exact impl_added.z0
def impl_after.l0:Nat→List (List Int)→List Int→List Int→Int→Int→Option (List Int)
 |0,_,_,_,_,_=>none
 |k+1,x1,x7,x12,x13,x14=>if x14<x13 then (if 0≤x14 then (if x14<(x12.length:Int) then (if 0≤(rd x12 x14) then (if (rd x12 x14)<(x1.length:Int) then ((impl_added.f k x7 (rd_L3 x1 (rd x12 x14))).bind fun aJ=>(impl_after.l0 k x1 aJ x12 x13 (wrap64 (x14+1)))) else (none)) else (none)) else (none)) else (none)) else (some x7)
def impl_after.f (k:Nat) (l0:List Int) (l1:List (List Int)) (l2:List Int):Option (List Int):=(slices_Clone_int_int.f l0).bind fun aK=>(impl_after.l0 k l1 aK l2 (l2.length:Int) 0)
theorem impl_after.z0 {P_:Prop} (h_:P_:=by go_wp2_with (first|((with_reducible refine gd_ 16 ?_);obtain ⟨p_,q_,ad_,e_,x0⟩:=a2_ (Kd.at_int (gC_ st (Kd.int .i64) A2 l2) ae);have ix_:=ix1_ Tryz.underlying28 e_ p_ q_ (c:=c2);clear e_;go_step)|((with_reducible refine gd_ 21 ?_);obtain ⟨p_,q_,ad_,aL,aM,e_,x0,l0_,C0_⟩:=a2_ (at_L3 (gC_ s0 (Kd.slice 3 (Kd.int .i64)) A1 l1) (rd l2 ae));replace x0:=cb_ st x0;replace st:=st.c C0_ l0_;have ix_:=ix1_ Tryz.underlying85 e_ p_ q_ (c:=c1);clear e_;go_step)|((with_reducible refine gc_ 92 ?_);refine ca_ (some 23) Tryz.func92 _ (impl_added.calls k1 az aA _ aL aM _ _ _ (gt_ st) (gt_ st) (gt_ st) (gt_ st) A_23.out) ?_;rintro e w_ ⟨v0,rfl,h0,hb⟩;refine ⟨_,rfl,?_⟩;obtain ⟨B23_0,d23_0,rfl⟩:=Kd.R_slice h0;replace st:=st.p1 hb (st.mr h0);clear cl hb h0;have cl:=cl_ st));first|(go_roundg k1;(case measure=>have:=HK1.out;omega);(case rel=>exact ⟨(aJ),(wrap64 (ae+1)),B23_0,d23_0,tx_,tx_,H',⟨by have:=HK1.out;omega⟩,st.en⟩))|(go_ret;exact ⟨.slice az ab.length aA,tw_,gt_ st,st.b⟩)):P_:=h_
theorem impl_after.calls (k:Nat) (A0:Option Addr) (c0:Nat) (l0:List Int) (A1:Option Addr) (c1:Nat) (l1:List (List Int)) (A2:Option Addr) (c2:Nat) (l2:List Int) (r:List Int) (w:World) (hr0:Kd.C (Kd.int .i64) w A0 l0.length l0) (hc0:l0.length≤c0) (hr1:Kd.C (Kd.slice 3 (Kd.int .i64)) w A1 l1.length l1) (hc1:l1.length≤c1) (hr2:Kd.C (Kd.int .i64) w A2 l2.length l2) (hc2:l2.length≤c2) (h:impl_after.f k l0 l1 l2=some r) :
  Calls Tryz.prog 57 #[.slice A0 l0.length c0,.slice A1 l1.length c1,.slice A2 l2.length c2] w fun e w'=>∃v0_:Value,e=.returned (v0_)∧Kd.R (Kd.int .i64) 3 w' w.heap.size (fun _=>True) v0_ r∧Below w.heap.size w w':=by
 have st:=(((ST.nil w).c hr0 hc0).c hr1 hc1).c hr2 hc2;have s0:=st;have cl:=cl_ st;have H:=h;clear h;unfold impl_after.f at H;go_enter Tryz.func57,Tryz.ntmps57;obtain ⟨aK,A_11,H⟩:=bnd_ H;have H':=A_ H;clear H;go_wp2_with (first|((with_reducible refine gc_ 91 ?_);refine ca_ (some 11) Tryz.func91 _ (slices_Clone_int_int.calls A0 c0 _ _ _ (gt_ st) (gt_ st) A_11.out) ?_;rintro e w_ ⟨v0,rfl,h0,hb⟩;refine ⟨_,rfl,?_⟩;obtain ⟨B11_0,d11_0,rfl⟩:=Kd.R_slice h0;replace st:=st.p1 hb (st.mr h0);clear cl hb h0;have cl:=cl_ st))
 go_loopg [7,14] k (fun kq v7 a7 w'=>∃(ab:List Int) (ae:Int) (az:Option Addr) (aA:Nat),v7=.slice az ab.length aA∧a7=.int .i64 ae∧Aside0 (impl_after.l0 kq l1 ab l2 (l2.length:Int) ae=some r)∧Aside0 (kq≤k)∧ST w [CA (Kd.slice 3 (Kd.int .i64)) w A1 l1 c1,CA (Kd.int .i64) w A2 l2 c2,AR (Kd.int .i64) 3 w.heap.size (.slice az ab.length aA) ab] [] w')
 case atStart=>exact ⟨(aK),(0),B11_0,d11_0,tx_,tx_,H',⟨Nat.le_refl _⟩,st.en⟩
 case round =>
  clear H' st cl;obtain ⟨ab,ae,az,aA,rfl,rfl,HA,HK1,st⟩:=hrel;have cl:=cl_ st
  cases gk with
  |zero=>exact absurd HA.out (by simp [impl_after.l0])
  |succ k1 =>
   have H:=HA.out;clear HA;simp only [impl_after.l0] at H;replace H:=it_ H;rcases H with ⟨ao,H⟩|⟨ao,H⟩
   ·
    replace H:=in_ H;obtain ⟨aC,H⟩:=H;replace H:=in_ H;obtain ⟨aD,H⟩:=H;replace H:=in_ H;obtain ⟨aY,H⟩:=H;replace H:=in_ H;obtain ⟨a8,H⟩:=H;obtain ⟨aJ,A_23,H⟩:=bnd_ H;have H':=A_ H;clear H;exact impl_after.z0
   ·
    obtain rfl:=Option.some.inj H;exact impl_after.z0
def impl_ruleWays.l0:Nat→List Int→List (List Int)→List Int→Int→List Int→Int→Int→Option (Int)
 |0,_,_,_,_,_,_,_=>none
 |k+1,x0,x1,x2,x7,x10,x11,x12=>if x12<x11 then (if 0≤x12 then (if x12<(x10.length:Int) then (if x12≤(x2.length:Int) then ((impl_after.f k x0 x1 (x2.take (x12:Int).toNat)).bind fun ai=>(if 0≤(rd x10 x12) then (if (rd x10 x12)<(ai.length:Int) then (if (wrap64 (x7*(mx 0 (rd ai (rd x10 x12)))))=0 then (some 0) else (impl_ruleWays.l0 k x0 x1 x2 (wrap64 (x7*(mx 0 (rd ai (rd x10 x12))))) x10 x11 (wrap64 (x12+1)))) else (none)) else (none))) else (none)) else (none)) else (none)) else (some x7)
def impl_ruleWays.f (k:Nat) (l0:List Int) (l1:List (List Int)) (l2:List Int):Option (Int):=impl_ruleWays.l0 k l0 l1 l2 1 l2 (l2.length:Int) 0
theorem impl_ruleWays.calls (k:Nat) (A0:Option Addr) (c0:Nat) (l0:List Int) (A1:Option Addr) (c1:Nat) (l1:List (List Int)) (A2:Option Addr) (c2:Nat) (l2:List Int) (r:Int) (w:World) (hr0:Kd.C (Kd.int .i64) w A0 l0.length l0) (hc0:l0.length≤c0) (hr1:Kd.C (Kd.slice 3 (Kd.int .i64)) w A1 l1.length l1) (hc1:l1.length≤c1) (hr2:Kd.C (Kd.int .i64) w A2 l2.length l2) (hc2:l2.length≤c2) (h:impl_ruleWays.f k l0 l1 l2=some r) :
  Calls Tryz.prog 90 #[.slice A0 l0.length c0,.slice A1 l1.length c1,.slice A2 l2.length c2] w fun e w'=>e=.returned (.int .i64 r)∧Below w.heap.size w w':=by
 have HR0:=A_ hr0;have HC0:=A_ hc0;clear hr0 hc0;have HR1:=A_ hr1;have HC1:=A_ hc1;clear hr1 hc1;have HR2:=A_ hr2;have HC2:=A_ hc2;clear hr2 hc2;have HB:=A_ (Below.refl w.heap.size w);have H:=h;clear h;unfold impl_ruleWays.f at H;have H':=A_ H;clear H;go_enter Tryz.func90,Tryz.ntmps90;go_wp2
 go_loopg [7,12] k (fun kq v7 aX w'=>∃(ab:Int) (aa:Int),v7=.int .i64 ab∧aX=.int .i64 aa∧Aside0 (impl_ruleWays.l0 kq l0 l1 l2 ab l2 (l2.length:Int) aa=some r)∧Aside0 (kq≤k)∧Aside0 (Below w.heap.size w w'))
 case atStart=>exact ⟨(1),(0),tx_,tx_,H',⟨Nat.le_refl _⟩,⟨(tb_ HB.out)⟩⟩
 case round =>
  clear H';obtain ⟨ab,aa,rfl,rfl,HA,HK1,HB⟩:=hrel
  cases gk with
  |zero=>exact absurd HA.out (by simp [impl_ruleWays.l0])
  |succ k1 =>
   have H:=HA.out;clear HA;simp only [impl_ruleWays.l0] at H;replace H:=it_ H;rcases H with ⟨ak,H⟩|⟨ak,H⟩
   ·
    replace H:=in_ H;obtain ⟨ao,H⟩:=H;replace H:=in_ H;obtain ⟨aC,H⟩:=H;have aD:=eq_true (od_:0≤aa);replace H:=i0_ H;obtain ⟨c8,H⟩:=H;have aY:=eq_true c8;have a9:decide (aa≤(l2.length:Int))=true:=decide_eq_true c8;clear c8;obtain ⟨ai,A9,H⟩:=bnd_ H;(try dsimp only at H);replace H:=in_ H;obtain ⟨a5,H⟩:=H;replace H:=in_ H;obtain ⟨a6,H⟩:=H;obtain ⟨an,al⟩:∃j_:Int,(mx 0 (rd ai (rd l2 aa)))=j_:=⟨_,rfl⟩
    replace H:(if (wrap64 (ab*(an)))=0 then (some 0) else (impl_ruleWays.l0 k1 l0 l1 l2 (wrap64 (ab*(an))) l2 (l2.length:Int) (wrap64 (aa+1))))=some r:=by first|(rw [al] at H;exact H)|(simp only [al] at H ⊢;exact H)
    (try rw [al] at A9);have hji12_:(if 0<(rd ai (rd l2 aa)) then (rd ai (rd l2 aa)) else 0)=an:=al;by_cases c13:(wrap64 (ab*(an)))=0
    ·
     rw [if_pos c13] at H;have aQ:((wrap64 (ab*(an))) == 0)=true:=beq_iff_eq.mpr c13;have aR:((wrap64 (ab*(an))) != 0)=false:=bne_eq_false_iff_eq.mpr c13;clear c13;obtain rfl:=Option.some.inj H;obtain ⟨p663,q663,ad663,e663,af⟩:=a2_ (Kd.at_int HR2.out aa);cases e663;replace af:=(HB.out.cell (World.block_lt_of_cell? w _ af)).trans af;obtain ⟨i014,hi014,_,hsz14,_⟩:=info_parts info3;obtain ⟨hcut14,hA14,hC14⟩:=print_take_of (P:=Tryz.prog) (Value.int .i64) 0 28 3 .i64 Tryz.underlying28 hi014 hsz14 (some ad663) c2 l2 aa (od_) (od_) HC2.out;have HR664:=A_ (Kd.C_of_reads (h1:=fun _=>rfl) (hA14 _ (Kd.reads_of_C HR2.out)));have HC664:=A_ hC14;clear hA14 hC14 hi014 hsz14;go_wp2_with (first|((with_reducible refine gc_ 57 ?_);refine goesL_ (some 23) rfl rfl Tryz.func57 (by kernel_rfl) rfl #[.slice A0 l0.length c0,.slice A1 l1.length c1,.slice (some ad663) (l2.take (aa:Int).toNat).length c2] rfl (by (try simp only [List.map_toArray,List.map_cons,List.map_nil]);first|done|(rw [show (l2.take (aa:Int).toNat).length=aa.toNat from (by rw [List.length_take];have h_:(aa:Int)≤(l2.length:Int):=od_;omega)]<;>rfl)|rfl|(simp only [List.length_drop,List.length_take];rfl)) ?_;(with_reducible refine (impl_after.calls k1 _ _ l0 _ _ l1 _ _ (l2.take (aa:Int).toNat) ai _ ?s1 ?s2 ?s3 ?s4 ?s5 ?s6 A9.out).mono ?_);(case s1=>exact tD_);(case s2=>exact HC0.out);(case s3=>exact tD_);(case s4=>exact HC1.out);(case s5=>exact tD_);(case s6=>exact HC664.out);rintro e bg ⟨aZ,rfl,ho0,hb⟩;refine ⟨_,rfl,?_⟩;have ap:=rx_ ho0 HB;replace HB:=bs_ HB hb;(try clear hb ho0);obtain ⟨bb,bc,a3⟩:=Kd.R_slice ap.out;subst a3;obtain ⟨p668,q668,ad668,e668,aE⟩:=a2_ (Kd.at_int (Kd.R_reads' ap.out).2.2 (rd l2 aa));cases e668));go_ret;exact ⟨by first|rfl|(simp [errW_none,errW_some,Option.map_none,Option.map_some]<;>rfl)|(simp only [←al];first|rfl|(simp [errW_none,errW_some,Option.map_none,Option.map_some]<;>rfl))|(simp [*,errW_none,errW_some]<;>rfl),(tb_ HB.out)⟩
    ·
     rw [if_neg c13] at H;have aQ:((wrap64 (ab*(an))) == 0)=false:=beq_eq_false_iff_ne.mpr c13;have aR:((wrap64 (ab*(an))) != 0)=true:=bne_iff_ne.mpr c13;have H':=A_ H;clear H;obtain ⟨p663,q663,ad663,e663,af⟩:=a2_ (Kd.at_int HR2.out aa);cases e663;replace af:=(HB.out.cell (World.block_lt_of_cell? w _ af)).trans af;obtain ⟨i017,hi017,_,hsz17,_⟩:=info_parts info3;obtain ⟨hcut17,hA17,hC17⟩:=print_take_of (P:=Tryz.prog) (Value.int .i64) 0 28 3 .i64 Tryz.underlying28 hi017 hsz17 (some ad663) c2 l2 aa (od_) (od_) HC2.out;have HR664:=A_ (Kd.C_of_reads (h1:=fun _=>rfl) (hA17 _ (Kd.reads_of_C HR2.out)));have HC664:=A_ hC17;clear hA17 hC17 hi017 hsz17;go_wp2_with (first|((with_reducible refine gc_ 57 ?_);refine goesL_ (some 23) rfl rfl Tryz.func57 (by kernel_rfl) rfl #[.slice A0 l0.length c0,.slice A1 l1.length c1,.slice (some ad663) (l2.take (aa:Int).toNat).length c2] rfl (by (try simp only [List.map_toArray,List.map_cons,List.map_nil]);first|done|(rw [show (l2.take (aa:Int).toNat).length=aa.toNat from (by rw [List.length_take];have h_:(aa:Int)≤(l2.length:Int):=od_;omega)]<;>rfl)|rfl|(simp only [List.length_drop,List.length_take];rfl)) ?_;(with_reducible refine (impl_after.calls k1 _ _ l0 _ _ l1 _ _ (l2.take (aa:Int).toNat) ai _ ?s1 ?s2 ?s3 ?s4 ?s5 ?s6 A9.out).mono ?_);(case s1=>exact tD_);(case s2=>exact HC0.out);(case s3=>exact tD_);(case s4=>exact HC1.out);(case s5=>exact tD_);(case s6=>exact HC664.out);rintro e bh ⟨aZ,rfl,ho0,hb⟩;refine ⟨_,rfl,?_⟩;have ap:=rx_ ho0 HB;replace HB:=bs_ HB hb;(try clear hb ho0);obtain ⟨bd,be,a4⟩:=Kd.R_slice ap.out;subst a4;obtain ⟨p668,q668,ad668,e668,aE⟩:=a2_ (Kd.at_int (Kd.R_reads' ap.out).2.2 (rd l2 aa));cases e668))
     go_roundg k1
     case measure=>have:=HK1.out;omega
     case rel=>exact ⟨(wrap64 (ab*(an))),(wrap64 (aa+1)),(by first|rfl|(simp;done)|(simp only [←al]<;>(first|rfl|simp))|(simp [*];done)),tx_,H',⟨by have:=HK1.out;omega⟩,⟨(tb_ HB.out)⟩⟩
   ·
    obtain rfl:=Option.some.inj H;go_wp2;go_ret;exact ⟨tw_,(tb_ HB.out)⟩
def impl_PlaceOk.j0:Nat→Bool→List Int→Int→List Int→Option (Bool)
 |0,_,_,_,_=>none
 |k+1,x25,ar,aF,aG=>if x25=true then (some false) else ((impl_SameRule.f k (ar.length:Int) aF).bind fun aU=>((impl_ruleWays.f k ar aU aG).bind fun aV=>(some (decide (aV>0)))))
def impl_PlaceOk.f (k:Nat) (ag:List Int) (a0_1:Int) (ah:List Int):Option (Bool):=(impl_StartOk.f k ag).bind fun aN=>(if aN=true then (if a0_1<(-1) then (impl_PlaceOk.j0 k true ag a0_1 ah) else (if a0_1>3 then (impl_PlaceOk.j0 k true ag a0_1 ah) else ((impl_WordOk.f k (ag.length:Int) ah).bind fun aO=>(impl_PlaceOk.j0 k (!aO) ag a0_1 ah)))) else (impl_PlaceOk.j0 k true ag a0_1 ah))
def impl_PlaceOk.T3:Bool×List (List Nat×List Nat):=(true,[([],[]),([0],[0]),([],[]),([2],[2]),([3],[3]),([],[]),([5],[5]),([4,6],[4,6]),([],[]),([8],[8]),([1,7,9,7],[1,7,9]),([10],[10]),([11,10,0,1,2,3,4,5,6,7,8,9,10,11],[11])])
def impl_PlaceOk.B3:List Nat:=[0,1,0,4,12,0,32,124,0,256,1023,2047,4095]
theorem impl_PlaceOk.tab3:rtab .any (opsOf Tryz.f51 3)=impl_PlaceOk.T3:=by kernel_rfl
theorem impl_PlaceOk.bits3:waitsOk impl_PlaceOk.T3.2 impl_PlaceOk.B3=true:=by kernel_rfl
theorem impl_PlaceOk.z0 {P_:Prop} (h_:P_:=by go_wp2_with (first|((with_reducible refine gc_ 88 ?_);refine ca_ (some 5) Tryz.func88 _ (impl_StartOk.calls k av aw _ _ _ (gt_ st) (gt_ st) A_5.out) ?_;rintro e w_ ⟨rfl,hb⟩;refine ⟨_,rfl,?_⟩;replace hb:=hb.below;replace st:=st.ev hb;clear cl hb;have cl:=cl_ st)|((with_reducible refine gc_ 89 ?_);refine gate_guard (by rfl) ?_;dsimp only;refine ca_ (some 23) Tryz.func89 _ (impl_WordOk.calls k _ ax ay _ _ _ (gt_ st) (gt_ st) A_23.out) ?_;rintro e w_ ⟨rfl,hb⟩;refine ⟨_,rfl,?_⟩;replace hb:=hb.below;replace st:=st.ev hb;clear cl hb;have cl:=cl_ st));first|(go_meet;(case rel=>exact ⟨_,(true),tx_,H',⟨by first|omega|exact Nat.le_refl _⟩,st.en⟩))|(go_meet;(case rel=>exact ⟨_,(!aO),tx_,H',⟨by first|omega|exact Nat.le_refl _⟩,st.en⟩))):P_:=h_
theorem impl_PlaceOk.calls (k:Nat) (av:Option Addr) (aw:Nat) (ag:List Int) (a0_1:Int) (ax:Option Addr) (ay:Nat) (ah:List Int) (r:Bool) (w:World) (hr0_0:Kd.C (Kd.int .i64) w av ag.length ag) (hc0_0:ag.length≤aw) (hr0_2:Kd.C (Kd.int .i64) w ax ah.length ah) (hc0_2:ah.length≤ay) (h:impl_PlaceOk.f k ag a0_1 ah=some r) :
  Calls Tryz.prog 51 #[.agg #[.slice av ag.length aw,.int .i64 a0_1,.slice ax ah.length ay]] w fun e w'=>e=.returned (.bool r)∧Below w.heap.size w w':=by
 have hu30:=Tryz.underlying30;have st:=((ST.nil w).c hr0_0 hc0_0).c hr0_2 hc0_2;have s0:=st;have cl:=cl_ st;have H:=h;clear h;unfold impl_PlaceOk.f at H;go_enter Tryz.func51,Tryz.ntmps51;have HC3:=A_ H;clear H
 go_upto_region 1 with (first|((with_reducible refine gd_ 1 ?_);refine al_ st ?_;clear st cl;intro g1 w_ st;have cl:=cl_ st))
 (try simp only [Act.put,sa_,sb_,sc_])
 go_cut [25] (fun bf wc=>∃(kq:Nat) (au:Bool),bf=.bool au∧Aside0 (impl_PlaceOk.j0 kq au ag a0_1 ah=some r)∧Aside0 (kq≤k)∧ST w [CA (Kd.int .i64) w av ag aw,CA (Kd.int .i64) w ax ah ay] [Bx g1 #[.slice av ag.length aw,.int .i64 a0_1,.slice ax ah.length ay] 30] wc)
 case first =>
  have H:=HC3.out;clear HC3;obtain ⟨aN,A_5,H⟩:=bnd_ H;rcases bx_ aN with rfl|rfl
  ·
   replace H:=bt_ H;replace H:=it_ H;rcases H with ⟨ak,H⟩|⟨ak,H⟩
   ·
    (first|rw [ak]|(simp only [i64_w,i32_w];rw [ak])|skip);have H':=A_ H;clear H;exact impl_PlaceOk.z0
   ·
    (first|rw [ak]|(simp only [i64_w,i32_w];rw [ak])|skip);replace H:=ig_ H;rcases H with ⟨ao,H⟩|⟨ao,H⟩
    ·
     have H':=A_ H;clear H;exact impl_PlaceOk.z0
    ·
     obtain ⟨aO,A_23,H⟩:=bnd_ H;have H':=A_ H;clear H;exact impl_PlaceOk.z0
  ·
   replace H:=bf_ H;have H':=A_ H;clear H;exact impl_PlaceOk.z0
 case rest =>
  clear HC3 st cl;obtain ⟨kq,au,rfl,HA,HJ2,st⟩:=hcut;have cl:=cl_ st
  cases kq with
  |zero=>exact absurd HA.out (by simp [impl_PlaceOk.j0])
  |succ kj2 =>
   have H:=HA.out;clear HA;simp only [impl_PlaceOk.j0] at H;rcases bx_ au with rfl|rfl
   ·
    replace H:=bt_ H;obtain rfl:=Option.some.inj H;go_wp2;go_ret;exact ⟨tw_,st.b⟩
   ·
    replace H:=bf_ H;obtain ⟨aU,A_33,H⟩:=bnd_ H;obtain ⟨aV,A_36,H⟩:=bnd_ H;obtain rfl:=Option.some.inj H;(try go_wp2);(all_goals (refine rg_ st [] ?_;clear st cl;intro w_ st hs;have cl:=cl_ st;refine with_tabW impl_PlaceOk.tab3 impl_PlaceOk.bits3 (fun HT_ HW_=>?_);refine pv_ 0 ?_;refine pv_ 2 ?_;refine pv_ 5 ?_;refine pv_ 8 ?_;refine tu_ 1 ?_;refine tu_ 3 ?_;refine tu_ 6 ?_;refine tu_ 9 ?_;refine pv_ 4 ?_;refine ov_ 7 (fun K hK=>?_);refine ca2_ (some 33) Tryz.func56 _ (impl_SameRule.calls kj2 _ _ _ _ A_33.out) ?_;rintro e w_ ⟨v0,rfl,h0,hb⟩;refine ⟨_,rfl,?_⟩;obtain ⟨B33_0,d33_0,rfl⟩:=Kd.S_slice h0;replace st:=st.p1 hb (st.ms h0);clear cl hb h0;have cl:=cl_ st;refine hK.out _ _ st.en (fun hs=>?_);clear hK K;refine nr_ 33 ?_;refine ov_ 10 (fun K hK=>?_);refine ca2_ (some 36) Tryz.func90 _ (impl_ruleWays.calls kj2 av aw _ B33_0 d33_0 _ ax ay _ _ _ (gt_ st) (gt_ st) (gt_ st) (gt_ st) (gt_ st) (gt_ st) A_36.out) ?_;rintro e w_ ⟨rfl,hb⟩;refine ⟨_,rfl,?_⟩;replace st:=st.ev hb;clear cl hb;have cl:=cl_ st;refine hK.out _ _ st.en (fun hs=>?_);clear hK K;refine nr_ 36 ?_;refine pv_ 11 ?_;refine pv_ 12 ?_;refine done_ (done_of HT_.out (by kernel_rfl)) ?_;all_goals (try go_wp2)));go_ret;exact ⟨tw_,st.b⟩
end Go.Proofs.YtabknkhhlbanoaaGreatDoor.MFnReadJournal
