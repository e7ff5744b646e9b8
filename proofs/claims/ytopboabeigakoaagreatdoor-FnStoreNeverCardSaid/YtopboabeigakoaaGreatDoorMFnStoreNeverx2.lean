/- For the law FnStoreNever: walks of the functions that it reaches: each call returns what the plain function beside it tells. The conditions stand in each statement. -/
import Derived.Test.YtopboabeigakoaaGreatDoorV
import Derived.Test.YtopboabeigakoaaGreatDoorMFnStoreNeverx0
namespace Go.Proofs.YtopboabeigakoaaGreatDoor.MFnStoreNever
open Go.RowKit Go.Proofs.YtopboabeigakoaaGreatDoorW.PrintWords Go.Proofs.YtopboabeigakoaaGreatDoorW.PrintLast Go.Proofs.YtopboabeigakoaaGreatDoorW.PrintMore
attribute [local go_sem] max2_int min2_int max_two min_two max_three min_three max_four min_four   -- for this text's walks alone
set_option linter.unusedVariables false
set_option linter.unusedSimpArgs false
set_option maxHeartbeats 8000000
set_option maxRecDepth 100000
def impl_coloursOk.f (a0:Int):Option (Bool):=if a0≥1 then (some (decide (a0≤3))) else (some false)
theorem impl_coloursOk.calls (a0:Int) (r:Bool) (w:World) (h:impl_coloursOk.f a0=some r) :
  Calls Tryz.prog 89 #[.int .i64 a0] w fun e w'=>e=.returned (.bool r)∧Drawn0 w w':=by
 have H:(if a0≥1 then (some (decide (a0≤3))) else (some false))=some r:=h;clear h;replace H:=ih_ H;rcases H with ⟨an,H⟩|⟨an,H⟩
 ·
  obtain rfl:=Option.some.inj H;go_enter Tryz.func89,Tryz.ntmps89;go_wp2;go_ret;exact ⟨tx_,dz_⟩
 ·
  obtain rfl:=Option.some.inj H;go_enter Tryz.func89,Tryz.ntmps89;go_wp2;go_ret;exact ⟨tx_,dz_⟩
def impl_UrnOk.l0:Nat→List Int→List Int→Int→Int→Option (Bool)
 |0,_,_,_,_=>none
 |k+1,x0,x5,x6,x7=>if x7<x6 then (if 0≤x7 then (if x7<(x5.length:Int) then (if (rd x5 x7)<0 then (some false) else (if (rd x5 x7)>40 then (some false) else (impl_UrnOk.l0 k x0 x5 x6 (wrap64 (x7+1))))) else (none)) else (none)) else ((impl_coloursOk.f (x0.length:Int)).bind fun ao=>(some ao))
def impl_UrnOk.f (k:Nat) (l0:List Int):Option (Bool):=impl_UrnOk.l0 k l0 l0 (l0.length:Int) 0
theorem impl_UrnOk.mono_l:∀k,(∀y0 y1 y2 y3,LeO (impl_UrnOk.l0 k y0 y1 y2 y3) (impl_UrnOk.l0 (k+1) y0 y1 y2 y3))
 |0=>fun _ _ _ _ r h=>by simp [impl_UrnOk.l0] at h
 |k+1=>by
  have ih0:=impl_UrnOk.mono_l k
  ·
   intro y0 y1 y2 y3
   unfold impl_UrnOk.l0
   repeat' (with_reducible first|exact ih0 _ _ _ _|exact mr_|exact mn_|refine mi_ ?_ ?_|refine mb_ ?_ (fun _=>?_))
theorem impl_UrnOk.mono:∀a0 k,LeO (impl_UrnOk.f k a0) (impl_UrnOk.f (k+1) a0):=by
 intro a0 k;have ih0:=impl_UrnOk.mono_l k;unfold impl_UrnOk.f;repeat' (with_reducible first|exact ih0 _ _ _ _|exact mr_|exact mn_|refine mi_ ?_ ?_|refine mb_ ?_ (fun _=>?_))
theorem impl_UrnOk.calls (k:Nat) (A0:Option Addr) (c0:Nat) (l0:List Int) (r:Bool) (w:World) (hr0:Kd.C (Kd.int .i64) w A0 l0.length l0) (hc0:l0.length≤c0) (h:impl_UrnOk.f k l0=some r) :
  Calls Tryz.prog 51 #[.slice A0 l0.length c0] w fun e w'=>e=.returned (.bool r)∧Drawn0 w w':=by
 have HR0:=A_ hr0;have HC0:=A_ hc0;clear hr0 hc0;have H:(impl_UrnOk.l0 k l0 l0 (l0.length:Int) 0)=some r:=h;clear h;have H':=A_ H;clear H;go_enter Tryz.func51,Tryz.ntmps51;go_wp2
 go_loopg [7] k (fun kq v7 w'=>∃(ab:Int),v7=.int .i64 ab∧Aside0 (impl_UrnOk.l0 kq l0 l0 (l0.length:Int) ab=some r)∧Aside0 (kq≤k)∧Drawn0 w w')
 case atStart=>exact ⟨(0),tx_,H',⟨Nat.le_refl _⟩,dz_⟩
 case round =>
  clear H';obtain ⟨ab,rfl,HA,HK1,⟨m1,rfl⟩⟩:=hrel
  cases gk with
  |zero=>exact absurd HA.out (by simp [impl_UrnOk.l0])
  |succ k1 =>
   have H:=HA.out;clear HA;simp only [impl_UrnOk.l0] at H;replace H:=it_ H;rcases H with ⟨an,H⟩|⟨an,H⟩
   ·
    replace H:=in_ H;obtain ⟨aq,H⟩:=H;replace H:=in_ H;obtain ⟨ae,H⟩:=H;replace H:=it_ H;rcases H with ⟨al,H⟩|⟨al,H⟩
    ·
     obtain rfl:=Option.some.inj H;obtain ⟨p101,q101,ad101,e101,ag⟩:=a2_ (Kd.at_int HR0.out ab);cases e101;go_wp2;go_ret;exact ⟨tx_,dz_⟩
    ·
     replace H:=ig_ H;rcases H with ⟨ak,H⟩|⟨ak,H⟩
     ·
      obtain rfl:=Option.some.inj H;obtain ⟨p101,q101,ad101,e101,ag⟩:=a2_ (Kd.at_int HR0.out ab);cases e101;go_wp2;go_ret;exact ⟨tx_,dz_⟩
     ·
      have H':=A_ H;clear H;obtain ⟨p101,q101,ad101,e101,ag⟩:=a2_ (Kd.at_int HR0.out ab);cases e101;go_wp2
      go_roundg k1
      case measure=>have:=HK1.out;omega
      case rel=>exact ⟨(wrap64 (ab+1)),tx_,H',⟨by have:=HK1.out;omega⟩,dz_⟩
   ·
    obtain ⟨ao,A7,H⟩:=bnd_ H;(try dsimp only at H);obtain rfl:=Option.some.inj H;go_wp2_with (first|((with_reducible refine gate_callee (f:=89) rfl ?_);refine gl_ (some 20) Tryz.func89 #[.int .i64 (l0.length:Int)] ?_;(with_reducible refine (impl_coloursOk.calls (l0.length:Int) ao _ A7.out).mono ?_);rintro e w' ⟨rfl,⟨nd,rfl⟩⟩;refine ⟨_,rfl,?_⟩));go_ret;exact ⟨tx_,dz_⟩
def laws_alive.f (k:Nat)  : Option (Bool):=(impl_UrnOk.f k (([1]:List Int))).bind fun ap=>(if ap=true then ((impl_UrnOk.f k (([]:List Int))).bind fun ar=>(some (!ar))) else (some false))
theorem laws_alive.mono:∀k,LeO (laws_alive.f k) (laws_alive.f (k+1)):=by
 intro  k;unfold laws_alive.f;repeat' (with_reducible first|exact impl_UrnOk.mono _ _|exact mr_|exact mn_|refine mi_ ?_ ?_|refine mb_ ?_ (fun _=>?_))
theorem laws_alive.z0 {P_:Prop} (h_:P_:=by go_wp2_with (first|((with_reducible refine gate_dst (N:=1) rfl ?_);refine nw_ (Kd.int .i64) 3 (([1]:List Int):List Int) [.int .i64 1] st ?_;clear st cl;intro B1_0 d1_0 w_ st;have cl:=cl_ st)|((with_reducible refine gate_callee (f:=51) rfl ?_);refine ca_ (some 2) Tryz.func51 _ (impl_UrnOk.calls k B1_0 d1_0 _ _ _ (gt_ st) (gt_ st) A_2.out) ?_;rintro e w_ ⟨rfl,hb⟩;refine ⟨_,rfl,?_⟩;replace hb:=hb.below;replace st:=st.ev hb;clear cl hb;have cl:=cl_ st)|((with_reducible refine gate_dst (N:=4) rfl ?_);refine gate_guard (by rfl) ?_;dsimp only;refine nw_ (Kd.int .i64) 3 (([]:List Int):List Int) [] st ?_;clear st cl;intro B4_0 d4_0 w_ st;have cl:=cl_ st)|((with_reducible refine gate_callee (f:=51) rfl ?_);refine gate_guard (by rfl) ?_;dsimp only;refine ca_ (some 5) Tryz.func51 _ (impl_UrnOk.calls k B4_0 d4_0 _ _ _ (gt_ st) (gt_ st) A_5.out) ?_;rintro e w_ ⟨rfl,hb⟩;refine ⟨_,rfl,?_⟩;replace hb:=hb.below;replace st:=st.ev hb;clear cl hb;have cl:=cl_ st));(go_ret;exact ⟨tw_,st.b⟩)):P_:=h_
theorem laws_alive.calls (k:Nat)  (r:Bool) (w:World) (h:laws_alive.f k=some r) :
  Calls Tryz.prog 16 #[] w fun e w'=>e=.returned (.bool r)∧Below w.heap.size w w':=by
 have st:=ST.nil w;have s0:=st;have cl:=cl_ st;have H:=h;clear h;unfold laws_alive.f at H;go_enter Tryz.func16,Tryz.ntmps16;obtain ⟨ap,A_2,H⟩:=bnd_ H;rcases bx_ ap with rfl|rfl
 ·
  replace H:=bt_ H;obtain ⟨ar,A_5,H⟩:=bnd_ H;obtain rfl:=Option.some.inj H;exact laws_alive.z0
 ·
  replace H:=bf_ H;obtain rfl:=Option.some.inj H;exact laws_alive.z0
def strings_Cut.f (a0:ByteArray) (a1:ByteArray):Option (ByteArray×ByteArray×Bool):=if a0.size<4294967281 then some (⟨(Lib.cut a0.data.toList a1.data.toList).1.toArray⟩,⟨(Lib.cut a0.data.toList a1.data.toList).2.1.toArray⟩,(Lib.cut a0.data.toList a1.data.toList).2.2) else none
theorem strings_Cut.calls (a0:ByteArray) (a1:ByteArray) (r1:ByteArray) (r2:ByteArray) (r3:Bool) (w:World) (hG:GWb w) (h:strings_Cut.f a0 a1=some (r1,r2,r3)) :
  Calls Tryz.prog 52 #[.string a0,.string a1] w fun e w'=>e=.returned (.tuple #[.string r1,.string r2,.bool r3])∧Drawn0 w w':=by
 unfold strings_Cut.f at h;split at h
 ·
  rename_i hb;simp only [Option.some.injEq,Prod.mk.injEq] at h;obtain ⟨rfl,rfl,rfl⟩:=h;exact (Sh.Tryz.strings_Cut_shaped a0 a1 w hG.shape hb).mono fun e w' ⟨he,m,hw⟩=>⟨he,⟨m,hw⟩⟩
 ·
  cases h
def strconv_Itoa.f (a0:Int):Option (ByteArray):=if -9223372036854775808≤a0∧a0≤9223372036854775807 then some ⟨(Lib.itoa a0).toArray⟩ else none
theorem strconv_Itoa.calls (a0:Int) (r:ByteArray) (w:World) (hG:GWb w) (h:strconv_Itoa.f a0=some r) :
  Calls Tryz.prog 92 #[.int .i64 a0] w fun e w'=>e=.returned (.string r)∧Below w.heap.size w w':=by
 unfold strconv_Itoa.f at h;split at h
 ·
  rename_i hb;obtain rfl:=Option.some.inj h;refine (Sh.Tryz.strconv_Itoa a0 hb.1 hb.2 w hG.tab).mono fun e w' ⟨he,k,os,hw⟩=>⟨he,hw ▸ Lib.below_grow _ w (Nat.le_refl _) k os⟩
 ·
  cases h
def impl_DeedText.j0:Nat→Bool→Int→Int→Int→Option (ByteArray)
 |0,_,_,_,_=>none
 |k+1,x21,ad,ah,ai=>if x21=true then (some (⟨#[]⟩:ByteArray)) else ((strconv_Itoa.f ah).bind fun aa=>(if 1+aa.size≤9223372036854775807 then (if ad=0 then (if 3+((⟨#[32]⟩:ByteArray)++aa).size≤9223372036854775807 then (if ((⟨#[112,117,116]⟩:ByteArray)++((⟨#[32]⟩:ByteArray)++aa)).size+1≤9223372036854775807 then ((strconv_Itoa.f ai).bind fun af=>(if (((⟨#[112,117,116]⟩:ByteArray)++((⟨#[32]⟩:ByteArray)++aa))++(⟨#[32]⟩:ByteArray)).size+af.size≤9223372036854775807 then (some ((((⟨#[112,117,116]⟩:ByteArray)++((⟨#[32]⟩:ByteArray)++aa))++(⟨#[32]⟩:ByteArray))++af)) else (none))) else (none)) else (none)) else (if ai=0 then (if ad=1 then (if 4+((⟨#[32]⟩:ByteArray)++aa).size≤9223372036854775807 then (some ((⟨#[115,116,101,112]⟩:ByteArray)++((⟨#[32]⟩:ByteArray)++aa))) else (none)) else (if ad=2 then (if 4+((⟨#[32]⟩:ByteArray)++aa).size≤9223372036854775807 then (some ((⟨#[100,114,97,119]⟩:ByteArray)++((⟨#[32]⟩:ByteArray)++aa))) else (none)) else (if ah=0 then (if ad=3 then (some (⟨#[97,103,97,105,110]⟩:ByteArray)) else (if ad=4 then (some (⟨#[98,97,99,107]⟩:ByteArray)) else (some (⟨#[]⟩:ByteArray)))) else (some (⟨#[]⟩:ByteArray))))) else (some (⟨#[]⟩:ByteArray)))) else (none)))
def impl_DeedText.f (k:Nat) (a0_0:Int) (a0_1:Int) (a0_2:Int):Option (ByteArray):=if a0_1<(-99) then (impl_DeedText.j0 k true a0_0 a0_1 a0_2) else (if a0_1>99 then (impl_DeedText.j0 k true a0_0 a0_1 a0_2) else (if a0_2<(-99) then (impl_DeedText.j0 k true a0_0 a0_1 a0_2) else (impl_DeedText.j0 k (decide (a0_2>99)) a0_0 a0_1 a0_2)))
theorem impl_DeedText.z0 {P_:Prop} (h_:P_:=by go_wp2_with (first|((with_reducible refine gate_callee (f:=92) rfl ?_);refine ca_ (some 24) Tryz.func92 _ (strconv_Itoa.calls _ _ _ (GWb.below HG.out st.b) A_24.out) ?_;rintro e w_ ⟨rfl,hb⟩;refine ⟨_,rfl,?_⟩;replace st:=st.ev hb;clear cl hb;have cl:=cl_ st)|((with_reducible refine gate_callee (f:=92) rfl ?_);refine ca_ (some 35) Tryz.func92 _ (strconv_Itoa.calls _ _ _ (GWb.below HG.out st.b) A_35.out) ?_;rintro e w_ ⟨rfl,hb⟩;refine ⟨_,rfl,?_⟩;replace st:=st.ev hb;clear cl hb;have cl:=cl_ st));(go_ret;exact ⟨tw_,st.b⟩)):P_:=h_
theorem impl_DeedText.calls (k:Nat) (a0_0:Int) (a0_1:Int) (a0_2:Int) (r:ByteArray) (w:World) (hG:GWb w) (h:impl_DeedText.f k a0_0 a0_1 a0_2=some r) :
  Calls Tryz.prog 55 #[.agg #[.int .i64 a0_0,.int .i64 a0_1,.int .i64 a0_2]] w fun e w'=>e=.returned (.string r)∧Below w.heap.size w w':=by
 have HG:=A_ hG;clear hG;have hu43:=Tryz.underlying43;have st:=ST.nil w;have s0:=st;have cl:=cl_ st;have H:=h;clear h;unfold impl_DeedText.f at H;go_enter Tryz.func55,Tryz.ntmps55;have HC3:=A_ H;clear H
 go_upto_region 1 with (first|((with_reducible refine gate_dst (N:=1) rfl ?_);refine al_ st ?_;clear st cl;intro g1 w_ st;have cl:=cl_ st))
 (try simp only [Act.put,sa_,sb_,sc_])
 go_cut [21] (fun a4 wc=>∃(kq:Nat) (aj:Bool),a4=.bool aj∧Aside0 (impl_DeedText.j0 kq aj a0_0 a0_1 a0_2=some r)∧Aside0 (kq≤k)∧ST w [] [Bx g1 #[.int .i64 a0_0,.int .i64 a0_1,.int .i64 a0_2] 43] wc)
 case first =>
  have H:=HC3.out;clear HC3;replace H:=it_ H;rcases H with ⟨ae,H⟩|⟨ae,H⟩
  ·
   (first|rw [ae]|(simp only [i64_w,i32_w];rw [ae])|skip);have H':=A_ H;clear H;go_wp2;go_meet
   case rel=>exact ⟨_,(true),tx_,H',⟨by first|omega|exact Nat.le_refl _⟩,st.en⟩
  ·
   (first|rw [ae]|(simp only [i64_w,i32_w];rw [ae])|skip);replace H:=ig_ H;rcases H with ⟨al,H⟩|⟨al,H⟩
   ·
    have H':=A_ H;clear H;go_wp2;go_meet
    case rel=>exact ⟨_,(true),tx_,H',⟨by first|omega|exact Nat.le_refl _⟩,st.en⟩
   ·
    replace H:=it_ H;rcases H with ⟨ak,H⟩|⟨ak,H⟩
    ·
     have H':=A_ H;clear H;go_wp2;go_meet
     case rel=>exact ⟨_,(true),tx_,H',⟨by first|omega|exact Nat.le_refl _⟩,st.en⟩
    ·
     have H':=A_ H;clear H;go_wp2;go_meet
     case rel=>exact ⟨_,(decide (a0_2>99)),tx_,H',⟨by first|omega|exact Nat.le_refl _⟩,st.en⟩
 case rest =>
  clear HC3 st cl;obtain ⟨kq,aj,rfl,HA,HJ2,st⟩:=hcut;have cl:=cl_ st
  cases kq with
  |zero=>exact absurd HA.out (by simp [impl_DeedText.j0])
  |succ kj2 =>
   have H:=HA.out;clear HA;simp only [impl_DeedText.j0] at H;rcases bx_ aj with rfl|rfl
   ·
    replace H:=bt_ H;obtain rfl:=Option.some.inj H;exact impl_DeedText.z0
   ·
    replace H:=bf_ H;obtain ⟨aa,A_24,H⟩:=bnd_ H;replace H:=i0_ H;obtain ⟨c7,H⟩:=H;have a5:=eq_true c7;have a6:decide (1+aa.size≤9223372036854775807)=true:=decide_eq_true c7;(try have a7:(9223372036854775807<1+aa.size)=False:=eq_false (Nat.not_lt.2 c7));by_cases c8:a0_0=0
    ·
     rw [if_pos c8] at H;have aG:(a0_0 == 0)=true:=beq_iff_eq.mpr c8;have aH:(a0_0 != 0)=false:=bne_eq_false_iff_eq.mpr c8;clear c8;replace H:=i0_ H;obtain ⟨c9,H⟩:=H;have a8:=eq_true c9;have a9:decide (3+((⟨#[32]⟩:ByteArray)++aa).size≤9223372036854775807)=true:=decide_eq_true c9;(try have bb:(9223372036854775807<3+((⟨#[32]⟩:ByteArray)++aa).size)=False:=eq_false (Nat.not_lt.2 c9));(try have bc:(9223372036854775807<3+(1+aa.size))=False:=eq_false (by have h:=c9;simp only [ByteArray.size_append] at h;simp only [ByteArray.size] at h ⊢;simp at h ⊢;omega));replace H:=i0_ H;obtain ⟨c10,H⟩:=H;have aJ:=eq_true c10;have aK:decide (((⟨#[112,117,116]⟩:ByteArray)++((⟨#[32]⟩:ByteArray)++aa)).size+1≤9223372036854775807)=true:=decide_eq_true c10;(try have aL:(9223372036854775807<((⟨#[112,117,116]⟩:ByteArray)++((⟨#[32]⟩:ByteArray)++aa)).size+1)=False:=eq_false (Nat.not_lt.2 c10));(try have aM:(9223372036854775807<3+(1+aa.size)+1)=False:=eq_false (by have h:=c10;simp only [ByteArray.size_append] at h;simp only [ByteArray.size] at h ⊢;simp at h ⊢;omega));obtain ⟨af,A_35,H⟩:=bnd_ H;replace H:=i0_ H;obtain ⟨c11,H⟩:=H;have aN:=eq_true c11;have aO:decide ((((⟨#[112,117,116]⟩:ByteArray)++((⟨#[32]⟩:ByteArray)++aa))++(⟨#[32]⟩:ByteArray)).size+af.size≤9223372036854775807)=true:=decide_eq_true c11;(try have aP:(9223372036854775807<(((⟨#[112,117,116]⟩:ByteArray)++((⟨#[32]⟩:ByteArray)++aa))++(⟨#[32]⟩:ByteArray)).size+af.size)=False:=eq_false (Nat.not_lt.2 c11));(try have aQ:(9223372036854775807<3+(1+aa.size)+1+af.size)=False:=eq_false (by have h:=c11;simp only [ByteArray.size_append] at h;simp only [ByteArray.size] at h ⊢;simp at h ⊢;omega));obtain rfl:=Option.some.inj H;exact impl_DeedText.z0
    ·
     rw [if_neg c8] at H;have aG:(a0_0 == 0)=false:=beq_eq_false_iff_ne.mpr c8;have aH:(a0_0 != 0)=true:=bne_iff_ne.mpr c8;by_cases c12:a0_2=0
     ·
      rw [if_pos c12] at H;have au:(a0_2 == 0)=true:=beq_iff_eq.mpr c12;have av:(a0_2 != 0)=false:=bne_eq_false_iff_eq.mpr c12;clear c12;by_cases c13:a0_0=1
      ·
       rw [if_pos c13] at H;have aw:(a0_0 == 1)=true:=beq_iff_eq.mpr c13;have ax:(a0_0 != 1)=false:=bne_eq_false_iff_eq.mpr c13;clear c13;replace H:=i0_ H;obtain ⟨c14,H⟩:=H;have aR:=eq_true c14;have aU:decide (4+((⟨#[32]⟩:ByteArray)++aa).size≤9223372036854775807)=true:=decide_eq_true c14;(try have aV:(9223372036854775807<4+((⟨#[32]⟩:ByteArray)++aa).size)=False:=eq_false (Nat.not_lt.2 c14));(try have aW:(9223372036854775807<4+(1+aa.size))=False:=eq_false (by have h:=c14;simp only [ByteArray.size_append] at h;simp only [ByteArray.size] at h ⊢;simp at h ⊢;omega));obtain rfl:=Option.some.inj H;exact impl_DeedText.z0
      ·
       rw [if_neg c13] at H;have aw:(a0_0 == 1)=false:=beq_eq_false_iff_ne.mpr c13;have ax:(a0_0 != 1)=true:=bne_iff_ne.mpr c13;by_cases c15:a0_0=2
       ·
        rw [if_pos c15] at H;have ay:(a0_0 == 2)=true:=beq_iff_eq.mpr c15;have az:(a0_0 != 2)=false:=bne_eq_false_iff_eq.mpr c15;clear c15;replace H:=i0_ H;obtain ⟨c16,H⟩:=H;have aX:=eq_true c16;have aY:decide (4+((⟨#[32]⟩:ByteArray)++aa).size≤9223372036854775807)=true:=decide_eq_true c16;(try have aZ:(9223372036854775807<4+((⟨#[32]⟩:ByteArray)++aa).size)=False:=eq_false (Nat.not_lt.2 c16));(try have a3:(9223372036854775807<4+(1+aa.size))=False:=eq_false (by have h:=c16;simp only [ByteArray.size_append] at h;simp only [ByteArray.size] at h ⊢;simp at h ⊢;omega));obtain rfl:=Option.some.inj H;exact impl_DeedText.z0
       ·
        rw [if_neg c15] at H;have ay:(a0_0 == 2)=false:=beq_eq_false_iff_ne.mpr c15;have az:(a0_0 != 2)=true:=bne_iff_ne.mpr c15;by_cases c17:a0_1=0
        ·
         rw [if_pos c17] at H;have aA:(a0_1 == 0)=true:=beq_iff_eq.mpr c17;have aB:(a0_1 != 0)=false:=bne_eq_false_iff_eq.mpr c17;clear c17;by_cases c18:a0_0=3
         ·
          rw [if_pos c18] at H;have aC:(a0_0 == 3)=true:=beq_iff_eq.mpr c18;have aD:(a0_0 != 3)=false:=bne_eq_false_iff_eq.mpr c18;clear c18;obtain rfl:=Option.some.inj H;exact impl_DeedText.z0
         ·
          rw [if_neg c18] at H;have aC:(a0_0 == 3)=false:=beq_eq_false_iff_ne.mpr c18;have aD:(a0_0 != 3)=true:=bne_iff_ne.mpr c18;by_cases c19:a0_0=4
          ·
           rw [if_pos c19] at H;have aE:(a0_0 == 4)=true:=beq_iff_eq.mpr c19;have aF:(a0_0 != 4)=false:=bne_eq_false_iff_eq.mpr c19;clear c19;obtain rfl:=Option.some.inj H;exact impl_DeedText.z0
          ·
           rw [if_neg c19] at H;have aE:(a0_0 == 4)=false:=beq_eq_false_iff_ne.mpr c19;have aF:(a0_0 != 4)=true:=bne_iff_ne.mpr c19;obtain rfl:=Option.some.inj H;exact impl_DeedText.z0
        ·
         rw [if_neg c17] at H;have aA:(a0_1 == 0)=false:=beq_eq_false_iff_ne.mpr c17;have aB:(a0_1 != 0)=true:=bne_iff_ne.mpr c17;obtain rfl:=Option.some.inj H;exact impl_DeedText.z0
     ·
      rw [if_neg c12] at H;have au:(a0_2 == 0)=false:=beq_eq_false_iff_ne.mpr c12;have av:(a0_2 != 0)=true:=bne_iff_ne.mpr c12;obtain rfl:=Option.some.inj H;exact impl_DeedText.z0
def strings_Split.f (a0:ByteArray) (a1:ByteArray):Option (List ByteArray):=if a0.size<4294967281∧1≤a1.size then some (Lib.splitB a1 0 (Lib.countB a0 a1) a0) else none
theorem strings_Split.calls (a0:ByteArray) (a1:ByteArray) (r:List ByteArray) (w:World) (hG:GWb w) (h:strings_Split.f a0 a1=some r) :
  Calls Tryz.prog 70 #[.string a0,.string a1] w fun e w'=>∃v0_:Value,e=.returned (v0_)∧Kd.R Kd.string 9 w' w.heap.size (fun _=>True) v0_ r∧Below w.heap.size w w':=by
 unfold strings_Split.f at h;split at h
 ·
  rename_i hb;obtain rfl:=Option.some.inj h;refine (Sh.Tryz.strings_Split_shaped a0 a1 w hG.shape hb.1 hb.2).mono fun e w' ⟨he,hw⟩=>?_;have hl:(Lib.splitB a1 0 (Lib.countB a0 a1) a0).length=Lib.countB a0 a1+1:=Lib.splitB_all a1 hb.2 0 _ a0 rfl;have hle:=Lib.countB_le a1 hb.2 a0.size a0 (Nat.le_refl _);have ho:=own_lit_of (enc:=Value.string) w w.heap.size 9 (Lib.splitB a1 0 (Lib.countB a0 a1) a0) (Nat.le_refl _) (by rw [hl];omega);refine ⟨_,he,?_,?_⟩
  ·
   rw [hw];rw [hl] at ho;exact Kd.R_of_own (by rw [hl];exact ho) (fun _ _=>trivial)
  ·
   rw [hw];exact (Below.refl _ _).alloc (Nat.le_refl _) _
 ·
  cases h
def strconv_Atoi.f (a0:ByteArray):Option (Int×Option Int):=if a0.size≤140737488355328 then some (match Lib.atoiAll a0.data.toList with|.ok v=>(v,none)|Lib.NumEnd.syntax=>(0,some 0)|.range=>(Lib.atoiSat a0.data.toList,some 0)) else none
theorem strconv_Atoi.calls (a0:ByteArray) (r1:Int) (r2:Option Int) (w:World) (hG:GWb w) (h:strconv_Atoi.f a0=some (r1,r2)) :
  Calls Tryz.prog 71 #[.string a0] w fun e w'=>∃N_:Int,e=.returned (.tuple #[.int .i64 r1,errW (r2.map fun _=>N_)])∧Below w.heap.size w w':=by
 unfold strconv_Atoi.f at h;split at h
 ·
  rename_i hb;rcases ha:Lib.atoiAll a0.data.toList with v|_|_
  ·
   simp only [ha,Option.some.injEq,Prod.mk.injEq] at h;obtain ⟨rfl,rfl⟩:=h;exact (Sh.Tryz.strconv_Atoi_ok a0 (by omega) v ha w).mono fun e w' ⟨he,hw⟩=>⟨0,he,atoi_below hw⟩
  ·
   simp only [ha,Option.some.injEq,Prod.mk.injEq] at h;obtain ⟨rfl,rfl⟩:=h;obtain ⟨t,p,hv⟩:=hG.esyn;exact (Sh.Tryz.strconv_Atoi_syntax_var a0 (by omega) ha t p w hv).mono fun e w' ⟨N,he,_,_,hw⟩=>⟨(N:Int),he,hw⟩
  ·
   simp only [ha,Option.some.injEq,Prod.mk.injEq] at h;obtain ⟨rfl,rfl⟩:=h;obtain ⟨t,p,hv⟩:=hG.erng;exact (Sh.Tryz.strconv_Atoi_range_var a0 (by omega) ha t p w hv).mono fun e w' ⟨N,he,_,_,hw⟩=>⟨(N:Int),he,hw⟩
 ·
  cases h
def slices_Index_string_string.l0:Nat→List ByteArray→ByteArray→Int→Int→Option (Int)
 |0,_,_,_,_=>none
 |k+1,x0,x1,x7,x8=>if x8<x7 then (if 0≤x8 then (if x8<(x0.length:Int) then (if x1.toList=(rdOf ByteArray.empty x0 x8).toList then (some x8) else (slices_Index_string_string.l0 k x0 x1 x7 (wrap64 (x8+1)))) else (none)) else (none)) else (some (-1))
def slices_Index_string_string.f (k:Nat) (l0:List ByteArray) (a1:ByteArray):Option (Int):=slices_Index_string_string.l0 k l0 a1 (l0.length:Int) 0
theorem slices_Index_string_string.calls (k:Nat) (A0:Option Addr) (c0:Nat) (l0:List ByteArray) (a1:ByteArray) (r:Int) (w:World) (hr0:Kd.C Kd.string w A0 l0.length l0) (hc0:l0.length≤c0) (h:slices_Index_string_string.f k l0 a1=some r) :
  Calls Tryz.prog 91 #[.slice A0 l0.length c0,.string a1] w fun e w'=>e=.returned (.int .i64 r)∧Drawn0 w w':=by
 have HR0:=A_ hr0;have HC0:=A_ hc0;clear hr0 hc0;have H:(slices_Index_string_string.l0 k l0 a1 (l0.length:Int) 0)=some r:=h;clear h;have H':=A_ H;clear H;go_enter Tryz.func91,Tryz.ntmps91;go_wp2
 go_loopg [8] k (fun kq v8 w'=>∃(ac:Int),v8=.int .i64 ac∧Aside0 (slices_Index_string_string.l0 kq l0 a1 (l0.length:Int) ac=some r)∧Aside0 (kq≤k)∧Drawn0 w w')
 case atStart=>exact ⟨(0),tx_,H',⟨Nat.le_refl _⟩,dz_⟩
 case round =>
  clear H';obtain ⟨ac,rfl,HA,HK1,⟨m1,rfl⟩⟩:=hrel
  cases gk with
  |zero=>exact absurd HA.out (by simp [slices_Index_string_string.l0])
  |succ k1 =>
   have H:=HA.out;clear HA;simp only [slices_Index_string_string.l0] at H;replace H:=it_ H;rcases H with ⟨aq,H⟩|⟨aq,H⟩
   ·
    replace H:=in_ H;obtain ⟨ae,H⟩:=H;replace H:=in_ H;obtain ⟨al,H⟩:=H;by_cases c6:a1.toList=(rdOf ByteArray.empty l0 ac).toList
    ·
     rw [if_pos c6] at H;have ak:(a1.toList == (rdOf ByteArray.empty l0 ac).toList)=true:=beq_iff_eq.mpr c6;have aI:(a1.toList != (rdOf ByteArray.empty l0 ac).toList)=false:=bne_eq_false_iff_eq.mpr c6;clear c6;obtain rfl:=Option.some.inj H;obtain ⟨p114,q114,ad114,e114,am⟩:=a2_ (Kd.at_string HR0.out ac);cases e114;go_wp2;go_ret;exact ⟨tx_,dz_⟩
    ·
     rw [if_neg c6] at H;have ak:(a1.toList == (rdOf ByteArray.empty l0 ac).toList)=false:=beq_eq_false_iff_ne.mpr c6;have aI:(a1.toList != (rdOf ByteArray.empty l0 ac).toList)=true:=bne_iff_ne.mpr c6;have H':=A_ H;clear H;obtain ⟨p114,q114,ad114,e114,am⟩:=a2_ (Kd.at_string HR0.out ac);cases e114;go_wp2
     go_roundg k1
     case measure=>have:=HK1.out;omega
     case rel=>exact ⟨(wrap64 (ac+1)),tx_,H',⟨by have:=HK1.out;omega⟩,dz_⟩
   ·
    obtain rfl:=Option.some.inj H;go_wp2;go_ret;exact ⟨tx_,dz_⟩
end Go.Proofs.YtopboabeigakoaaGreatDoor.MFnStoreNever
