/- For the law FnStoreSave: walks of the functions that it reaches: each call returns what the plain function beside it tells. The conditions stand in each statement. -/
import Derived.Test.YtopboabeigakoaaGreatDoorV
import Derived.Test.YtopboabeigakoaaGreatDoorMFnStoreSavex0
namespace Go.Proofs.YtopboabeigakoaaGreatDoor.MFnStoreSave
open Go.RowKit Go.Proofs.YtopboabeigakoaaGreatDoorW.PrintWords Go.Proofs.YtopboabeigakoaaGreatDoorW.PrintLast Go.Proofs.YtopboabeigakoaaGreatDoorW.PrintMore
attribute [local go_sem] max2_int min2_int max_two min_two max_three min_three max_four min_four   -- for this text's walks alone
set_option linter.unusedVariables false
set_option linter.unusedSimpArgs false
set_option maxHeartbeats 8000000
set_option maxRecDepth 100000
def impl_coloursOk.f (a0:Int):Option (Bool):=if a0≥1 then (some (decide (a0≤3))) else (some false)
theorem impl_coloursOk.calls (a0:Int) (r:Bool) (w:World) (h:impl_coloursOk.f a0=some r) :
  Calls Tryz.prog 89 #[.int .i64 a0] w fun e w'=>e=.returned (.bool r)∧Drawn0 w w':=by
 have H:(if a0≥1 then (some (decide (a0≤3))) else (some false))=some r:=h;clear h;replace H:=ih_ H;rcases H with ⟨ar,H⟩|⟨ar,H⟩
 ·
  obtain rfl:=Option.some.inj H;go_enter Tryz.func89,Tryz.ntmps89;go_wp2;go_ret;exact ⟨tx_,dz_⟩
 ·
  obtain rfl:=Option.some.inj H;go_enter Tryz.func89,Tryz.ntmps89;go_wp2;go_ret;exact ⟨tx_,dz_⟩
def impl_UrnOk.l0:Nat→List Int→List Int→Int→Int→Option (Bool)
 |0,_,_,_,_=>none
 |k+1,x0,x5,x6,x7=>if x7<x6 then (if 0≤x7 then (if x7<(x5.length:Int) then (if (rd x5 x7)<0 then (some false) else (if (rd x5 x7)>40 then (some false) else (impl_UrnOk.l0 k x0 x5 x6 (wrap64 (x7+1))))) else (none)) else (none)) else ((impl_coloursOk.f (x0.length:Int)).bind fun az=>(some az))
def impl_UrnOk.f (k:Nat) (l0:List Int):Option (Bool):=impl_UrnOk.l0 k l0 l0 (l0.length:Int) 0
theorem impl_UrnOk.mono_l:∀k,(∀y0 y1 y2 y3,LeO (impl_UrnOk.l0 k y0 y1 y2 y3) (impl_UrnOk.l0 (k+1) y0 y1 y2 y3))
 |0=>fun _ _ _ _ r h=>by simp [impl_UrnOk.l0] at h
 |k+1=>by
  have ih0:=impl_UrnOk.mono_l k
  ·
   intro y0 y1 y2 y3
   unfold impl_UrnOk.l0
   repeat' (with_reducible first|exact ih0 _ _ _ _|exact mr_|exact mn_|refine mi_ ?_ ?_|refine mb_ ?_ (fun _=>?_))
theorem impl_UrnOk.mono:∀a0 k,LeO (impl_UrnOk.f k a0) (impl_UrnOk.f (k+1) a0):=by
 intro a0 k;have ih0:=impl_UrnOk.mono_l k;unfold impl_UrnOk.f;repeat' (with_reducible first|exact ih0 _ _ _ _|exact mr_|exact mn_|refine mi_ ?_ ?_|refine mb_ ?_ (fun _=>?_))
theorem impl_UrnOk.calls (k:Nat) (A0:Option Addr) (c0:Nat) (l0:List Int) (r:Bool) (w:World) (hr0:Kd.C (Kd.int .i64) w A0 l0.length l0) (hc0:l0.length≤c0) (h:impl_UrnOk.f k l0=some r) :
  Calls Tryz.prog 51 #[.slice A0 l0.length c0] w fun e w'=>e=.returned (.bool r)∧Drawn0 w w':=by
 have HR0:=A_ hr0;have HC0:=A_ hc0;clear hr0 hc0;have H:(impl_UrnOk.l0 k l0 l0 (l0.length:Int) 0)=some r:=h;clear h;have H':=A_ H;clear H;go_enter Tryz.func51,Tryz.ntmps51;go_wp2
 go_loopg [7] k (fun kq v7 w'=>∃(ab:Int),v7=.int .i64 ab∧Aside0 (impl_UrnOk.l0 kq l0 l0 (l0.length:Int) ab=some r)∧Aside0 (kq≤k)∧Drawn0 w w')
 case atStart=>exact ⟨(0),tx_,H',⟨Nat.le_refl _⟩,dz_⟩
 case round =>
  clear H';obtain ⟨ab,rfl,HA,HK1,⟨m1,rfl⟩⟩:=hrel
  cases gk with
  |zero=>exact absurd HA.out (by simp [impl_UrnOk.l0])
  |succ k1 =>
   have H:=HA.out;clear HA;simp only [impl_UrnOk.l0] at H;replace H:=it_ H;rcases H with ⟨ar,H⟩|⟨ar,H⟩
   ·
    replace H:=in_ H;obtain ⟨aA,H⟩:=H;replace H:=in_ H;obtain ⟨ap,H⟩:=H;replace H:=it_ H;rcases H with ⟨al,H⟩|⟨al,H⟩
    ·
     obtain rfl:=Option.some.inj H;obtain ⟨p101,q101,ad101,e101,an⟩:=a2_ (Kd.at_int HR0.out ab);cases e101;go_wp2;go_ret;exact ⟨tx_,dz_⟩
    ·
     replace H:=ig_ H;rcases H with ⟨aq,H⟩|⟨aq,H⟩
     ·
      obtain rfl:=Option.some.inj H;obtain ⟨p101,q101,ad101,e101,an⟩:=a2_ (Kd.at_int HR0.out ab);cases e101;go_wp2;go_ret;exact ⟨tx_,dz_⟩
     ·
      have H':=A_ H;clear H;obtain ⟨p101,q101,ad101,e101,an⟩:=a2_ (Kd.at_int HR0.out ab);cases e101;go_wp2
      go_roundg k1
      case measure=>have:=HK1.out;omega
      case rel=>exact ⟨(wrap64 (ab+1)),tx_,H',⟨by have:=HK1.out;omega⟩,dz_⟩
   ·
    obtain ⟨az,A7,H⟩:=bnd_ H;(try dsimp only at H);obtain rfl:=Option.some.inj H;go_wp2_with (first|((with_reducible refine gate_callee (f:=89) rfl ?_);refine gl_ (some 20) Tryz.func89 #[.int .i64 (l0.length:Int)] ?_;(with_reducible refine (impl_coloursOk.calls (l0.length:Int) az _ A7.out).mono ?_);rintro e w' ⟨rfl,⟨nd,rfl⟩⟩;refine ⟨_,rfl,?_⟩));go_ret;exact ⟨tx_,dz_⟩
def impl_StartOk.l0:Nat→List Int→List Int→Int→Int→Option (Bool)
 |0,_,_,_,_=>none
 |k+1,x0,x5,x6,x7=>if x7<x6 then (if 0≤x7 then (if x7<(x5.length:Int) then (if (rd x5 x7)>10 then (some false) else (impl_StartOk.l0 k x0 x5 x6 (wrap64 (x7+1)))) else (none)) else (none)) else ((impl_UrnOk.f k x0).bind fun aB=>(some aB))
def impl_StartOk.f (k:Nat) (l0:List Int):Option (Bool):=impl_StartOk.l0 k l0 l0 (l0.length:Int) 0
theorem impl_StartOk.calls (k:Nat) (A0:Option Addr) (c0:Nat) (l0:List Int) (r:Bool) (w:World) (hr0:Kd.C (Kd.int .i64) w A0 l0.length l0) (hc0:l0.length≤c0) (h:impl_StartOk.f k l0=some r) :
  Calls Tryz.prog 101 #[.slice A0 l0.length c0] w fun e w'=>e=.returned (.bool r)∧Drawn0 w w':=by
 have HR0:=A_ hr0;have HC0:=A_ hc0;clear hr0 hc0;have H:(impl_StartOk.l0 k l0 l0 (l0.length:Int) 0)=some r:=h;clear h;have H':=A_ H;clear H;go_enter Tryz.func101,Tryz.ntmps101;go_wp2
 go_loopg [7] k (fun kq v7 w'=>∃(ab:Int),v7=.int .i64 ab∧Aside0 (impl_StartOk.l0 kq l0 l0 (l0.length:Int) ab=some r)∧Aside0 (kq≤k)∧Drawn0 w w')
 case atStart=>exact ⟨(0),tx_,H',⟨Nat.le_refl _⟩,dz_⟩
 case round =>
  clear H';obtain ⟨ab,rfl,HA,HK1,⟨m1,rfl⟩⟩:=hrel
  cases gk with
  |zero=>exact absurd HA.out (by simp [impl_StartOk.l0])
  |succ k1 =>
   have H:=HA.out;clear HA;simp only [impl_StartOk.l0] at H;replace H:=it_ H;rcases H with ⟨ar,H⟩|⟨ar,H⟩
   ·
    replace H:=in_ H;obtain ⟨aA,H⟩:=H;replace H:=in_ H;obtain ⟨ap,H⟩:=H;replace H:=ig_ H;rcases H with ⟨al,H⟩|⟨al,H⟩
    ·
     obtain rfl:=Option.some.inj H;obtain ⟨p103,q103,ad103,e103,aw⟩:=a2_ (Kd.at_int HR0.out ab);cases e103;go_wp2;go_ret;exact ⟨tx_,dz_⟩
    ·
     have H':=A_ H;clear H;obtain ⟨p103,q103,ad103,e103,aw⟩:=a2_ (Kd.at_int HR0.out ab);cases e103;go_wp2
     go_roundg k1
     case measure=>have:=HK1.out;omega
     case rel=>exact ⟨(wrap64 (ab+1)),tx_,H',⟨by have:=HK1.out;omega⟩,dz_⟩
   ·
    obtain ⟨aB,A6,H⟩:=bnd_ H;(try dsimp only at H);obtain rfl:=Option.some.inj H;go_wp2_with (first|((with_reducible refine gate_callee (f:=51) rfl ?_);refine gl_ (some 15) Tryz.func51 #[.slice A0 l0.length c0] ?_;(with_reducible refine (impl_UrnOk.calls k1 _ _ l0 aB _ ?s1 ?s2 A6.out).mono ?_);(case s1=>exact td_);(case s2=>exact HC0.out);rintro e w' ⟨rfl,⟨nd,rfl⟩⟩;refine ⟨_,rfl,?_⟩));go_ret;exact ⟨tx_,dz_⟩
def impl_WordOk.l0:Nat→Int→List Int→List Int→Int→Int→Option (Bool)
 |0,_,_,_,_,_=>none
 |k+1,x0,x1,x7,x8,x9=>if x9<x8 then (if 0≤x9 then (if x9<(x7.length:Int) then (if (rd x7 x9)<0 then (some false) else (if (rd x7 x9)≥x0 then (some false) else (impl_WordOk.l0 k x0 x1 x7 x8 (wrap64 (x9+1))))) else (none)) else (none)) else ((impl_coloursOk.f x0).bind fun aC=>(if aC=true then (some (decide ((x1.length:Int)≤6))) else (some false)))
def impl_WordOk.f (k:Nat) (a0:Int) (l1:List Int):Option (Bool):=impl_WordOk.l0 k a0 l1 l1 (l1.length:Int) 0
theorem impl_WordOk.calls (k:Nat) (a0:Int) (A1:Option Addr) (c1:Nat) (l1:List Int) (r:Bool) (w:World) (hr1:Kd.C (Kd.int .i64) w A1 l1.length l1) (hc1:l1.length≤c1) (h:impl_WordOk.f k a0 l1=some r) :
  Calls Tryz.prog 102 #[.int .i64 a0,.slice A1 l1.length c1] w fun e w'=>e=.returned (.bool r)∧Drawn0 w w':=by
 have HR1:=A_ hr1;have HC1:=A_ hc1;clear hr1 hc1;have H:(impl_WordOk.l0 k a0 l1 l1 (l1.length:Int) 0)=some r:=h;clear h;have H':=A_ H;clear H;go_enter Tryz.func102,Tryz.ntmps102;go_wp2
 go_loopg [9] k (fun kq v9 w'=>∃(ac:Int),v9=.int .i64 ac∧Aside0 (impl_WordOk.l0 kq a0 l1 l1 (l1.length:Int) ac=some r)∧Aside0 (kq≤k)∧Drawn0 w w')
 case atStart=>exact ⟨(0),tx_,H',⟨Nat.le_refl _⟩,dz_⟩
 case round =>
  clear H';obtain ⟨ac,rfl,HA,HK1,⟨m1,rfl⟩⟩:=hrel
  cases gk with
  |zero=>exact absurd HA.out (by simp [impl_WordOk.l0])
  |succ k1 =>
   have H:=HA.out;clear HA;simp only [impl_WordOk.l0] at H;replace H:=it_ H;rcases H with ⟨aA,H⟩|⟨aA,H⟩
   ·
    replace H:=in_ H;obtain ⟨ap,H⟩:=H;replace H:=in_ H;obtain ⟨al,H⟩:=H;replace H:=it_ H;rcases H with ⟨aq,H⟩|⟨aq,H⟩
    ·
     obtain rfl:=Option.some.inj H;obtain ⟨p105,q105,ad105,e105,ao⟩:=a2_ (Kd.at_int HR1.out ac);cases e105;go_wp2;go_ret;exact ⟨tx_,dz_⟩
    ·
     replace H:=ih_ H;rcases H with ⟨ax,H⟩|⟨ax,H⟩
     ·
      obtain rfl:=Option.some.inj H;obtain ⟨p105,q105,ad105,e105,ao⟩:=a2_ (Kd.at_int HR1.out ac);cases e105;go_wp2;go_ret;exact ⟨tx_,dz_⟩
     ·
      have H':=A_ H;clear H;obtain ⟨p105,q105,ad105,e105,ao⟩:=a2_ (Kd.at_int HR1.out ac);cases e105;go_wp2
      go_roundg k1
      case measure=>have:=HK1.out;omega
      case rel=>exact ⟨(wrap64 (ac+1)),tx_,H',⟨by have:=HK1.out;omega⟩,dz_⟩
   ·
    obtain ⟨aC,A8,H⟩:=bnd_ H;(try dsimp only at H);by_cases c9:aC=true
    ·
     subst c9;replace H:(some (decide ((l1.length:Int)≤6)))=some r:=by rw [if_pos rfl] at H;exact H
     obtain rfl:=Option.some.inj H;go_wp2_with (first|((with_reducible refine gate_callee (f:=89) rfl ?_);refine gl_ (some 22) Tryz.func89 #[.int .i64 a0] ?_;(with_reducible refine (impl_coloursOk.calls a0 true _ A8.out).mono ?_);rintro e w' ⟨rfl,⟨nd,rfl⟩⟩;refine ⟨_,rfl,?_⟩));go_ret;exact ⟨tx_,dz_⟩
    ·
     replace c9:=Bool.eq_false_iff.mpr c9;subst c9;replace H:(some false)=some r:=by rw [if_neg (show ¬(false=true) by decide)] at H;exact H
     obtain rfl:=Option.some.inj H;go_wp2_with (first|((with_reducible refine gate_callee (f:=89) rfl ?_);refine gl_ (some 22) Tryz.func89 #[.int .i64 a0] ?_;(with_reducible refine (impl_coloursOk.calls a0 false _ A8.out).mono ?_);rintro e w' ⟨rfl,⟨nd,rfl⟩⟩;refine ⟨_,rfl,?_⟩));go_ret;exact ⟨tx_,dz_⟩
def slices_Clone_int_int.f (l0:List Int):Option (List Int):=if l0.length*8≤140737488355328 then some l0 else none
theorem slices_Clone_int_int.calls (A0:Option Addr) (c0:Nat) (l0:List Int) (r:List Int) (w:World) (hr0:Kd.C (Kd.int .i64) w A0 l0.length l0) (hc0:l0.length≤c0) (h:slices_Clone_int_int.f l0=some r) :
  Calls Tryz.prog 100 #[.slice A0 l0.length c0] w fun e w'=>∃v0_:Value,e=.returned (v0_)∧Kd.R (Kd.int .i64) 3 w' w.heap.size (fun _=>True) v0_ r∧Below w.heap.size w w':=by
 unfold slices_Clone_int_int.f at h;by_cases hl:l0.length*8≤140737488355328
 ·
  rw [if_pos hl] at h;obtain rfl:=Option.some.inj h;rcases Nat.eq_zero_or_pos l0.length with h0|h0
  ·
   obtain rfl:l0=[]:=List.eq_nil_of_length_eq_zero h0
   cases A0 with
   |none=>exact (Sh.Tryz.slices_Clone_int_nil 0 c0 w).mono fun e w' ⟨he,hw⟩=>⟨.slice none 0 0,he,Kd.R_nil _ _ _ _ _,hw ▸ Below.refl _ _⟩
   |some ad=>exact (Sh.Tryz.slices_Clone_int_zero ad c0 w).mono fun e w' ⟨v,he,ho,_,hb⟩=>⟨v,he,Kd.R_of_own (xs:=[]) ho (fun _ _=>trivial),hb⟩
  ·
   obtain ⟨ad,rfl,hc⟩:=hr0.2.2 h0
   have hcell:∀j,j<l0.length→w.cell? (ad.add j)=some (.int .i64 (l0.getD j 0)):=by
    intro j hj;obtain ⟨c,hc1,hc2,hc3⟩:=hc j _ (List.getElem?_eq_getElem hj);have e1:c=[.int .i64 l0[j]]:=hc2;have:=hc3 0 _ (by rw [e1];rfl);rw [List.getD_eq_getElem?_getD,List.getElem?_eq_getElem hj];simpa [Kd.int,Kd.scalar] using this
   have hs:=hcell 0 h0
   have hsp:ad.spot=none:=by
    cases hq:ad.spot with
    |none=>rfl
    |some q=>simp [World.cell?,Addr.add,hq] at hs;split at hs<;>simp at hs
   obtain ⟨b,o,sp⟩:=ad;simp only at hsp;subst hsp;refine (Sh.Tryz.slices_Clone_int b o l0.length c0 l0 w (Nat.le_refl _) hl (fun j hj=>by have:=hcell j hj;unfold Addr.add at this;split at this<;>simp_all)).mono fun e w' ⟨v,he,ho,_,hb⟩=>⟨v,he,Kd.R_of_own (by rw [List.take_length] at ho;exact ho) (fun _ _=>trivial),hb⟩
 ·
  rw [if_neg hl] at h;exact absurd h (by simp)
def impl_added.l0:Nat→List Int→List Int→Int→Int→Option (List Int)
 |0,_,_,_,_=>none
 |k+1,x5,x10,x11,x12=>if x12<x11 then (if 0≤x12 then (if x12<(x10.length:Int) then (if x12<(x5.length:Int) then (impl_added.l0 k (x5.set (x12:Int).toNat (wrap64 ((rd x5 x12)+(rd x10 x12)))) x10 x11 (wrap64 (x12+1))) else (none)) else (none)) else (none)) else (some x5)
def impl_added.f (k:Nat) (l0:List Int) (l1:List Int):Option (List Int):=(slices_Clone_int_int.f l0).bind fun aj=>(impl_added.l0 k aj l1 (l1.length:Int) 0)
theorem impl_added.z0 {P_:Prop} (h_:P_:=by go_wp2_with (first|((with_reducible refine gate_dst (N:=15) rfl ?_);(try clear ix_);obtain ⟨p_,q_,ad_,e_,x0⟩:=a2_ (Kd.at_int (gC_ st (Kd.int .i64) A1 l1) aa);have ix_:=ix1_ Tryz.underlying33 e_ p_ q_ (c:=c1);clear e_;go_step)|((with_reducible refine gate_dst (N:=19) rfl ?_);(try clear ix_);obtain ⟨p_,q_,ad_,e_,x0⟩:=a2_ (Kd.at_int (gK_ st (Kd.int .i64) B9_0 ah) aa);have ix_:=ix1_ (n:=aj.length) Tryz.underlying33 e_ p_ (iq_ q_ (gtl_ st)) (c:=d9_0);clear e_;go_step)|((with_reducible refine gate_dst (N:=23) rfl ?_);(try clear ix_);obtain ⟨p_,q_,ad_23,e_23,_⟩:=a2_ (Kd.at_int (gK_ st (Kd.int .i64) B9_0 ah) aa);have ix_:=ix1_ (n:=aj.length) Tryz.underlying33 e_23 p_ (iq_ q_ (gtl_ st)) (c:=d9_0);replace e_23:=A_ e_23;go_step)|((with_reducible refine gate_store (p:=23) rfl ?_);obtain ⟨hx_,hz_⟩:=st.rc B9_0 ah aa 0 e_23.out (by first|exact od_|omega|(simp only [List.length_set];first|exact od_|omega)) (by first|exact od_|omega|(simp only [List.length_set];first|exact od_|omega));refine pt_ B9_0 ah aa (wrap64 ((rd ah aa)+(rd l1 aa))) e_23.out st (by first|exact od_|omega|(simp only [List.length_set];first|exact od_|omega)) (by first|exact od_|omega|(simp only [List.length_set];first|exact od_|omega)) ?_;clear st cl hx_ hz_;intro w_ st;have cl:=cl_ st));first|(go_roundg k1;(case measure=>have:=HK1.out;omega);(case rel=>exact ⟨((ah.set (aa:Int).toNat (wrap64 ((rd ah aa)+(rd l1 aa))))),(wrap64 (aa+1)),tx_,H',⟨by have:=HK1.out;omega⟩,st.en⟩))|(go_ret;exact ⟨.slice B9_0 aj.length d9_0,tw_,gtl_ st,st.b⟩)):P_:=h_
theorem impl_added.calls (k:Nat) (A0:Option Addr) (c0:Nat) (l0:List Int) (A1:Option Addr) (c1:Nat) (l1:List Int) (r:List Int) (w:World) (hr0:Kd.C (Kd.int .i64) w A0 l0.length l0) (hc0:l0.length≤c0) (hr1:Kd.C (Kd.int .i64) w A1 l1.length l1) (hc1:l1.length≤c1) (h:impl_added.f k l0 l1=some r) :
  Calls Tryz.prog 146 #[.slice A0 l0.length c0,.slice A1 l1.length c1] w fun e w'=>∃v0_:Value,e=.returned (v0_)∧Kd.R (Kd.int .i64) 3 w' w.heap.size (fun _=>True) v0_ r∧Below w.heap.size w w':=by
 have st:=((ST.nil w).c hr0 hc0).c hr1 hc1;have s0:=st;have cl:=cl_ st;have H:=h;clear h;unfold impl_added.f at H;go_enter Tryz.func146,Tryz.ntmps146;obtain ⟨aj,A_9,H⟩:=bnd_ H;have H':=A_ H;clear H;go_wp2_with (first|((with_reducible refine gate_callee (f:=100) rfl ?_);refine ca_ (some 9) Tryz.func100 _ (slices_Clone_int_int.calls A0 c0 _ _ _ (gt_ st) (gt_ st) A_9.out) ?_;rintro e w_ ⟨v0,rfl,h0,hb⟩;refine ⟨_,rfl,?_⟩;obtain ⟨B9_0,d9_0,rfl⟩:=Kd.R_slice h0;replace st:=st.box (A:=AR (Kd.int .i64) 3 w.heap.size (.slice B9_0 aj.length d9_0) aj) hb (st.mr h0);clear cl hb h0;have cl:=cl_ st))
 go_loopg [12] k (fun kq aJ w'=>∃(ah:List Int) (aa:Int),aJ=.int .i64 aa∧Aside0 (impl_added.l0 kq ah l1 (l1.length:Int) aa=some r)∧Aside0 (kq≤k)∧ST w [CA (Kd.int .i64) w A0 l0 c0,CA (Kd.int .i64) w A1 l1 c1] [AR (Kd.int .i64) 3 w.heap.size (.slice B9_0 aj.length d9_0) ah] w')
 case atStart=>exact ⟨(aj),(0),tx_,H',⟨Nat.le_refl _⟩,st.en⟩
 case round =>
  clear H' st cl;obtain ⟨ah,aa,rfl,HA,HK1,st⟩:=hrel;have cl:=cl_ st
  cases gk with
  |zero=>exact absurd HA.out (by simp [impl_added.l0])
  |succ k1 =>
   have H:=HA.out;clear HA;simp only [impl_added.l0] at H;replace H:=it_ H;rcases H with ⟨ap,H⟩|⟨ap,H⟩
   ·
    replace H:=in_ H;obtain ⟨al,H⟩:=H;replace H:=in_ H;obtain ⟨aq,H⟩:=H;replace H:=in_ H;obtain ⟨ax,H⟩:=H;have H':=A_ H;clear H;exact impl_added.z0
   ·
    obtain rfl:=Option.some.inj H;exact impl_added.z0
def impl_after.l0:Nat→List (List Int)→List Int→List Int→Int→Int→Option (List Int)
 |0,_,_,_,_,_=>none
 |k+1,x1,x7,x12,x13,x14=>if x14<x13 then (if 0≤x14 then (if x14<(x12.length:Int) then (if 0≤(rd x12 x14) then (if (rd x12 x14)<(x1.length:Int) then ((impl_added.f k x7 (rd_L1 x1 (rd x12 x14))).bind fun aD=>(impl_after.l0 k x1 aD x12 x13 (wrap64 (x14+1)))) else (none)) else (none)) else (none)) else (none)) else (some x7)
def impl_after.f (k:Nat) (l0:List Int) (l1:List (List Int)) (l2:List Int):Option (List Int):=(slices_Clone_int_int.f l0).bind fun aE=>(impl_after.l0 k l1 aE l2 (l2.length:Int) 0)
theorem impl_after.z0 {P_:Prop} (h_:P_:=by go_wp2_with (first|((with_reducible refine gate_dst (N:=16) rfl ?_);obtain ⟨p_,q_,ad_,e_,x0⟩:=a2_ (Kd.at_int (gC_ st (Kd.int .i64) A2 l2) ae);have ix_:=ix1_ Tryz.underlying33 e_ p_ q_ (c:=c2);clear e_;go_step)|((with_reducible refine gate_dst (N:=21) rfl ?_);obtain ⟨p_,q_,ad_,aF,aG,e_,x0,l0_,C0_⟩:=a2_ (at_L1 (gC_ s0 (Kd.slice 3 (Kd.int .i64)) A1 l1) (rd l2 ae));replace x0:=cb_ st x0;replace st:=st.c C0_ l0_;have ix_:=ix1_ Tryz.underlying118 e_ p_ q_ (c:=c1);clear e_;go_step)|((with_reducible refine gate_callee (f:=146) rfl ?_);refine ca_ (some 23) Tryz.func146 _ (impl_added.calls k1 au av _ aF aG _ _ _ (gt_ st) (gt_ st) (gt_ st) (gt_ st) A_23.out) ?_;rintro e w_ ⟨v0,rfl,h0,hb⟩;refine ⟨_,rfl,?_⟩;obtain ⟨B23_0,d23_0,rfl⟩:=Kd.R_slice h0;replace st:=st.p1 hb (st.mr h0);clear cl hb h0;have cl:=cl_ st));first|(go_roundg k1;(case measure=>have:=HK1.out;omega);(case rel=>exact ⟨(aD),(wrap64 (ae+1)),B23_0,d23_0,tx_,tx_,H',⟨by have:=HK1.out;omega⟩,st.en⟩))|(go_ret;exact ⟨.slice au ab.length av,tw_,gt_ st,st.b⟩)):P_:=h_
theorem impl_after.calls (k:Nat) (A0:Option Addr) (c0:Nat) (l0:List Int) (A1:Option Addr) (c1:Nat) (l1:List (List Int)) (A2:Option Addr) (c2:Nat) (l2:List Int) (r:List Int) (w:World) (hr0:Kd.C (Kd.int .i64) w A0 l0.length l0) (hc0:l0.length≤c0) (hr1:Kd.C (Kd.slice 3 (Kd.int .i64)) w A1 l1.length l1) (hc1:l1.length≤c1) (hr2:Kd.C (Kd.int .i64) w A2 l2.length l2) (hc2:l2.length≤c2) (h:impl_after.f k l0 l1 l2=some r) :
  Calls Tryz.prog 125 #[.slice A0 l0.length c0,.slice A1 l1.length c1,.slice A2 l2.length c2] w fun e w'=>∃v0_:Value,e=.returned (v0_)∧Kd.R (Kd.int .i64) 3 w' w.heap.size (fun _=>True) v0_ r∧Below w.heap.size w w':=by
 have st:=(((ST.nil w).c hr0 hc0).c hr1 hc1).c hr2 hc2;have s0:=st;have cl:=cl_ st;have H:=h;clear h;unfold impl_after.f at H;go_enter Tryz.func125,Tryz.ntmps125;obtain ⟨aE,A_11,H⟩:=bnd_ H;have H':=A_ H;clear H;go_wp2_with (first|((with_reducible refine gate_callee (f:=100) rfl ?_);refine ca_ (some 11) Tryz.func100 _ (slices_Clone_int_int.calls A0 c0 _ _ _ (gt_ st) (gt_ st) A_11.out) ?_;rintro e w_ ⟨v0,rfl,h0,hb⟩;refine ⟨_,rfl,?_⟩;obtain ⟨B11_0,d11_0,rfl⟩:=Kd.R_slice h0;replace st:=st.p1 hb (st.mr h0);clear cl hb h0;have cl:=cl_ st))
 go_loopg [7,14] k (fun kq v7 aQ w'=>∃(ab:List Int) (ae:Int) (au:Option Addr) (av:Nat),v7=.slice au ab.length av∧aQ=.int .i64 ae∧Aside0 (impl_after.l0 kq l1 ab l2 (l2.length:Int) ae=some r)∧Aside0 (kq≤k)∧ST w [CA (Kd.int .i64) w A0 l0 c0,CA (Kd.slice 3 (Kd.int .i64)) w A1 l1 c1,CA (Kd.int .i64) w A2 l2 c2,AR (Kd.int .i64) 3 w.heap.size (.slice au ab.length av) ab] [] w')
 case atStart=>exact ⟨(aE),(0),B11_0,d11_0,tx_,tx_,H',⟨Nat.le_refl _⟩,st.en⟩
 case round =>
  clear H' st cl;obtain ⟨ab,ae,au,av,rfl,rfl,HA,HK1,st⟩:=hrel;have cl:=cl_ st
  cases gk with
  |zero=>exact absurd HA.out (by simp [impl_after.l0])
  |succ k1 =>
   have H:=HA.out;clear HA;simp only [impl_after.l0] at H;replace H:=it_ H;rcases H with ⟨al,H⟩|⟨al,H⟩
   ·
    replace H:=in_ H;obtain ⟨aq,H⟩:=H;replace H:=in_ H;obtain ⟨ax,H⟩:=H;replace H:=in_ H;obtain ⟨aK,H⟩:=H;replace H:=in_ H;obtain ⟨aR,H⟩:=H;obtain ⟨aD,A_23,H⟩:=bnd_ H;have H':=A_ H;clear H;exact impl_after.z0
   ·
    obtain rfl:=Option.some.inj H;exact impl_after.z0
def impl_ruleWays.l0:Nat→List Int→List (List Int)→List Int→Int→List Int→Int→Int→Option (Int)
 |0,_,_,_,_,_,_,_=>none
 |k+1,x0,x1,x2,x7,x10,x11,x12=>if x12<x11 then (if 0≤x12 then (if x12<(x10.length:Int) then (if x12≤(x2.length:Int) then ((impl_after.f k x0 x1 (x2.take (x12:Int).toNat)).bind fun ag=>(if 0≤(rd x10 x12) then (if (rd x10 x12)<(ag.length:Int) then (if (wrap64 (x7*(mx 0 (rd ag (rd x10 x12)))))=0 then (some 0) else (impl_ruleWays.l0 k x0 x1 x2 (wrap64 (x7*(mx 0 (rd ag (rd x10 x12))))) x10 x11 (wrap64 (x12+1)))) else (none)) else (none))) else (none)) else (none)) else (none)) else (some x7)
def impl_ruleWays.f (k:Nat) (l0:List Int) (l1:List (List Int)) (l2:List Int):Option (Int):=impl_ruleWays.l0 k l0 l1 l2 1 l2 (l2.length:Int) 0
theorem impl_ruleWays.calls (k:Nat) (A0:Option Addr) (c0:Nat) (l0:List Int) (A1:Option Addr) (c1:Nat) (l1:List (List Int)) (A2:Option Addr) (c2:Nat) (l2:List Int) (r:Int) (w:World) (hr0:Kd.C (Kd.int .i64) w A0 l0.length l0) (hc0:l0.length≤c0) (hr1:Kd.C (Kd.slice 3 (Kd.int .i64)) w A1 l1.length l1) (hc1:l1.length≤c1) (hr2:Kd.C (Kd.int .i64) w A2 l2.length l2) (hc2:l2.length≤c2) (h:impl_ruleWays.f k l0 l1 l2=some r) :
  Calls Tryz.prog 103 #[.slice A0 l0.length c0,.slice A1 l1.length c1,.slice A2 l2.length c2] w fun e w'=>e=.returned (.int .i64 r)∧Below w.heap.size w w':=by
 have HR0:=A_ hr0;have HC0:=A_ hc0;clear hr0 hc0;have HR1:=A_ hr1;have HC1:=A_ hc1;clear hr1 hc1;have HR2:=A_ hr2;have HC2:=A_ hc2;clear hr2 hc2;have HB:=A_ (Below.refl w.heap.size w);have H:(impl_ruleWays.l0 k l0 l1 l2 1 l2 (l2.length:Int) 0)=some r:=h;clear h;have H':=A_ H;clear H;go_enter Tryz.func103,Tryz.ntmps103;go_wp2
 go_loopg [7,12] k (fun kq v7 aJ w'=>∃(ab:Int) (aa:Int),v7=.int .i64 ab∧aJ=.int .i64 aa∧Aside0 (impl_ruleWays.l0 kq l0 l1 l2 ab l2 (l2.length:Int) aa=some r)∧Aside0 (kq≤k)∧Aside0 (Below w.heap.size w w'))
 case atStart=>exact ⟨(1),(0),tx_,tx_,H',⟨Nat.le_refl _⟩,⟨(tb_ HB.out)⟩⟩
 case round =>
  clear H';obtain ⟨ab,aa,rfl,rfl,HA,HK1,HB⟩:=hrel
  cases gk with
  |zero=>exact absurd HA.out (by simp [impl_ruleWays.l0])
  |succ k1 =>
   have H:=HA.out;clear HA;simp only [impl_ruleWays.l0] at H;replace H:=it_ H;rcases H with ⟨ap,H⟩|⟨ap,H⟩
   ·
    replace H:=in_ H;obtain ⟨al,H⟩:=H;replace H:=in_ H;obtain ⟨aq,H⟩:=H;have ax:=eq_true (od_:0≤aa);replace H:=i0_ H;obtain ⟨c8,H⟩:=H;have aK:=eq_true c8;have aU:decide (aa≤(l2.length:Int))=true:=decide_eq_true c8;clear c8;obtain ⟨ag,A9,H⟩:=bnd_ H;(try dsimp only at H);replace H:=in_ H;obtain ⟨aO,H⟩:=H;replace H:=in_ H;obtain ⟨aP,H⟩:=H;obtain ⟨ak,ai⟩:∃j_:Int,(mx 0 (rd ag (rd l2 aa)))=j_:=⟨_,rfl⟩
    replace H:(if (wrap64 (ab*(ak)))=0 then (some 0) else (impl_ruleWays.l0 k1 l0 l1 l2 (wrap64 (ab*(ak))) l2 (l2.length:Int) (wrap64 (aa+1))))=some r:=by first|(rw [ai] at H;exact H)|(simp only [ai] at H ⊢;exact H)
    (try rw [ai] at A9);have hji12_:(if 0<(rd ag (rd l2 aa)) then (rd ag (rd l2 aa)) else 0)=ak:=ai;by_cases c13:(wrap64 (ab*(ak)))=0
    ·
     rw [if_pos c13] at H;have aH:((wrap64 (ab*(ak))) == 0)=true:=beq_iff_eq.mpr c13;have aI:((wrap64 (ab*(ak))) != 0)=false:=bne_eq_false_iff_eq.mpr c13;clear c13;obtain rfl:=Option.some.inj H;obtain ⟨p121,q121,ad121,e121,af⟩:=a2_ (Kd.at_int HR2.out aa);cases e121;replace af:=(HB.out.cell (World.block_lt_of_cell? w _ af)).trans af;obtain ⟨i014,hi014,_,hsz14,_⟩:=info_parts info3;obtain ⟨hcut14,hA14,hC14⟩:=print_take_of (P:=Tryz.prog) (Value.int .i64) 0 33 3 .i64 Tryz.underlying33 hi014 hsz14 (some ad121) c2 l2 aa (od_) (od_) HC2.out;have HR122:=A_ (Kd.C_of_reads (h1:=fun _=>rfl) (hA14 _ (Kd.reads_of_C HR2.out)));have HC122:=A_ hC14;clear hA14 hC14 hi014 hsz14;go_wp2_with (first|((with_reducible refine gate_callee (f:=125) rfl ?_);refine goesL_ (some 23) rfl rfl Tryz.func125 (by kernel_rfl) rfl #[.slice A0 l0.length c0,.slice A1 l1.length c1,.slice (some ad121) (l2.take (aa:Int).toNat).length c2] rfl (by (try simp only [List.map_toArray,List.map_cons,List.map_nil]);first|done|(rw [show (l2.take (aa:Int).toNat).length=aa.toNat from (by rw [List.length_take];have h_:(aa:Int)≤(l2.length:Int):=od_;omega)]<;>rfl)|rfl|(simp only [List.length_drop,List.length_take];rfl)) ?_;(with_reducible refine (impl_after.calls k1 _ _ l0 _ _ l1 _ _ (l2.take (aa:Int).toNat) ag _ ?s1 ?s2 ?s3 ?s4 ?s5 ?s6 A9.out).mono ?_);(case s1=>exact tD_);(case s2=>exact HC0.out);(case s3=>exact tD_);(case s4=>exact HC1.out);(case s5=>exact tD_);(case s6=>exact HC122.out);rintro e aZ ⟨aL,rfl,ho0,hb⟩;refine ⟨_,rfl,?_⟩;have am:=rx_ ho0 HB;replace HB:=bs_ HB hb;(try clear hb ho0);obtain ⟨aV,aW,aM⟩:=Kd.R_slice am.out;subst aM;obtain ⟨p126,q126,ad126,e126,ay⟩:=a2_ (Kd.at_int (Kd.R_reads' am.out).2.2 (rd l2 aa));cases e126));go_ret;exact ⟨by first|rfl|(simp [errW_none,errW_some,Option.map_none,Option.map_some]<;>rfl)|(simp only [←ai];first|rfl|(simp [errW_none,errW_some,Option.map_none,Option.map_some]<;>rfl))|(simp [*,errW_none,errW_some]<;>rfl),(tb_ HB.out)⟩
    ·
     rw [if_neg c13] at H;have aH:((wrap64 (ab*(ak))) == 0)=false:=beq_eq_false_iff_ne.mpr c13;have aI:((wrap64 (ab*(ak))) != 0)=true:=bne_iff_ne.mpr c13;have H':=A_ H;clear H;obtain ⟨p121,q121,ad121,e121,af⟩:=a2_ (Kd.at_int HR2.out aa);cases e121;replace af:=(HB.out.cell (World.block_lt_of_cell? w _ af)).trans af;obtain ⟨i017,hi017,_,hsz17,_⟩:=info_parts info3;obtain ⟨hcut17,hA17,hC17⟩:=print_take_of (P:=Tryz.prog) (Value.int .i64) 0 33 3 .i64 Tryz.underlying33 hi017 hsz17 (some ad121) c2 l2 aa (od_) (od_) HC2.out;have HR122:=A_ (Kd.C_of_reads (h1:=fun _=>rfl) (hA17 _ (Kd.reads_of_C HR2.out)));have HC122:=A_ hC17;clear hA17 hC17 hi017 hsz17;go_wp2_with (first|((with_reducible refine gate_callee (f:=125) rfl ?_);refine goesL_ (some 23) rfl rfl Tryz.func125 (by kernel_rfl) rfl #[.slice A0 l0.length c0,.slice A1 l1.length c1,.slice (some ad121) (l2.take (aa:Int).toNat).length c2] rfl (by (try simp only [List.map_toArray,List.map_cons,List.map_nil]);first|done|(rw [show (l2.take (aa:Int).toNat).length=aa.toNat from (by rw [List.length_take];have h_:(aa:Int)≤(l2.length:Int):=od_;omega)]<;>rfl)|rfl|(simp only [List.length_drop,List.length_take];rfl)) ?_;(with_reducible refine (impl_after.calls k1 _ _ l0 _ _ l1 _ _ (l2.take (aa:Int).toNat) ag _ ?s1 ?s2 ?s3 ?s4 ?s5 ?s6 A9.out).mono ?_);(case s1=>exact tD_);(case s2=>exact HC0.out);(case s3=>exact tD_);(case s4=>exact HC1.out);(case s5=>exact tD_);(case s6=>exact HC122.out);rintro e a3 ⟨aL,rfl,ho0,hb⟩;refine ⟨_,rfl,?_⟩;have am:=rx_ ho0 HB;replace HB:=bs_ HB hb;(try clear hb ho0);obtain ⟨aX,aY,aN⟩:=Kd.R_slice am.out;subst aN;obtain ⟨p126,q126,ad126,e126,ay⟩:=a2_ (Kd.at_int (Kd.R_reads' am.out).2.2 (rd l2 aa));cases e126))
     go_roundg k1
     case measure=>have:=HK1.out;omega
     case rel=>exact ⟨(wrap64 (ab*(ak))),(wrap64 (aa+1)),(by first|rfl|(simp;done)|(simp only [←ai]<;>(first|rfl|simp))|(simp [*];done)),tx_,H',⟨by have:=HK1.out;omega⟩,⟨(tb_ HB.out)⟩⟩
   ·
    obtain rfl:=Option.some.inj H;go_wp2;go_ret;exact ⟨tw_,(tb_ HB.out)⟩
end Go.Proofs.YtopboabeigakoaaGreatDoor.MFnStoreSave
