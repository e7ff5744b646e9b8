/- For the law FnStoreNever: walks of the functions that it reaches: each call returns what the plain function beside it tells. The conditions stand in each statement. -/
import Derived.Test.YtopboabeigakoaaGreatDoorV
import Derived.Test.YtopboabeigakoaaGreatDoorMFnStoreNeverx0
import Derived.Test.YtopboabeigakoaaGreatDoorMFnStoreNeverx8
import Derived.Test.YtopboabeigakoaaGreatDoorMFnStoreNeverx10
namespace Go.Proofs.YtopboabeigakoaaGreatDoor.MFnStoreNever
open Go.RowKit Go.Proofs.YtopboabeigakoaaGreatDoorW.PrintWords Go.Proofs.YtopboabeigakoaaGreatDoorW.PrintLast Go.Proofs.YtopboabeigakoaaGreatDoorW.PrintMore
attribute [local go_sem] max2_int min2_int max_two min_two max_three min_three max_four min_four   -- for this text's walks alone
set_option linter.unusedVariables false
set_option linter.unusedSimpArgs false
set_option maxHeartbeats 8000000
set_option maxRecDepth 100000
def spec_l15Row.l0:Nat→List Int→ByteArray→Int→Option (ByteArray)
 |0,_,_,_=>none
 |k+1,x0,x3,x4=>if x4<(x0.length:Int) then (if x4>0 then (if x3.size+1≤9223372036854775807 then (if 0≤x4 then ((spec_l1Number.f k (rd x0 x4)).bind fun aw=>(if (x3++(⟨#[44]⟩:ByteArray)).size+aw.size≤9223372036854775807 then (spec_l15Row.l0 k x0 ((x3++(⟨#[44]⟩:ByteArray))++aw) (wrap64 (x4+1))) else (none))) else (none)) else (none)) else (if 0≤x4 then ((spec_l1Number.f k (rd x0 x4)).bind fun ax=>(if x3.size+ax.size≤9223372036854775807 then (spec_l15Row.l0 k x0 (x3++ax) (wrap64 (x4+1))) else (none))) else (none))) else (if (x0.length:Int)=0 then (some (⟨#[110,111,110,101]⟩:ByteArray)) else (some x3))
def spec_l15Row.f (k:Nat) (l0:List Int):Option (ByteArray):=spec_l15Row.l0 k l0 (⟨#[]⟩:ByteArray) 0
theorem spec_l15Row.z0 {P_:Prop} (h_:P_:=by go_wp2_with (first|((with_reducible refine gate_dst (N:=18) rfl ?_);obtain ⟨p_,q_,ad_,e_,x0⟩:=a2_ (Kd.at_int (gC_ st (Kd.int .i64) A0 l0) aa);have ix_:=ix1_ Tryz.underlying33 e_ p_ q_ (c:=c0);clear e_;go_step)|((with_reducible refine gate_callee (f:=122) rfl ?_);refine ca_ (some 20) Tryz.func122 _ (spec_l1Number.calls k1 _ _ _ A_20.out) ?_;rintro e w_ ⟨rfl,hb⟩;refine ⟨_,rfl,?_⟩;replace st:=st.ev hb;clear cl hb;have cl:=cl_ st));first|(go_roundg k1;(case measure=>have:=HK1.out;omega);(case rel=>exact ⟨((ae++(⟨#[44]⟩:ByteArray))++aw),(wrap64 (aa+1)),tx_,tx_,H',⟨by have:=HK1.out;omega⟩,st.en⟩))|(go_roundg k1;(case measure=>have:=HK1.out;omega);(case rel=>exact ⟨(ae++ax),(wrap64 (aa+1)),tx_,tx_,H',⟨by have:=HK1.out;omega⟩,st.en⟩))|(go_ret;exact ⟨tw_,st.b⟩)):P_:=h_
theorem spec_l15Row.calls (k:Nat) (A0:Option Addr) (c0:Nat) (l0:List Int) (r:ByteArray) (w:World) (hr0:Kd.C (Kd.int .i64) w A0 l0.length l0) (hc0:l0.length≤c0) (h:spec_l15Row.f k l0=some r) :
  Calls Tryz.prog 95 #[.slice A0 l0.length c0] w fun e w'=>e=.returned (.string r)∧Below w.heap.size w w':=by
 have st:=(ST.nil w).c hr0 hc0;have s0:=st;have cl:=cl_ st;have H:=h;clear h;unfold spec_l15Row.f at H;go_enter Tryz.func95,Tryz.ntmps95;have H':=A_ H;clear H;go_wp2
 go_loopg [3,4] k (fun kq v3 v4 w'=>∃(ae:ByteArray) (aa:Int),v3=.string ae∧v4=.int .i64 aa∧Aside0 (spec_l15Row.l0 kq l0 ae aa=some r)∧Aside0 (kq≤k)∧ST w [CA (Kd.int .i64) w A0 l0 c0] [] w')
 case atStart=>exact ⟨((⟨#[]⟩:ByteArray)),(0),tx_,tx_,H',⟨Nat.le_refl _⟩,st.en⟩
 case round =>
  clear H' st cl;obtain ⟨ae,aa,rfl,rfl,HA,HK1,st⟩:=hrel;have cl:=cl_ st
  cases gk with
  |zero=>exact absurd HA.out (by simp [spec_l15Row.l0])
  |succ k1 =>
   have H:=HA.out;clear HA;simp only [spec_l15Row.l0] at H;replace H:=it_ H;rcases H with ⟨aH,H⟩|⟨aH,H⟩
   ·
    replace H:=ig_ H;rcases H with ⟨aE,H⟩|⟨aE,H⟩
    ·
     replace H:=i0_ H;obtain ⟨c5,H⟩:=H;have al:=eq_true c5;have aI:decide (ae.size+1≤9223372036854775807)=true:=decide_eq_true c5;(try have bC:(9223372036854775807<ae.size+1)=False:=eq_false (Nat.not_lt.2 c5));replace H:=in_ H;obtain ⟨aJ,H⟩:=H;obtain ⟨aw,A_20,H⟩:=bnd_ H;replace H:=i0_ H;obtain ⟨c7,H⟩:=H;have aQ:=eq_true c7;have aR:decide ((ae++(⟨#[44]⟩:ByteArray)).size+aw.size≤9223372036854775807)=true:=decide_eq_true c7;(try have bD:(9223372036854775807<(ae++(⟨#[44]⟩:ByteArray)).size+aw.size)=False:=eq_false (Nat.not_lt.2 c7));(try have bE:(9223372036854775807<ae.size+1+aw.size)=False:=eq_false (by have h:=c7;simp only [ByteArray.size_append] at h;simp only [ByteArray.size] at h ⊢;simp at h ⊢;omega));have H':=A_ H;clear H;exact spec_l15Row.z0
    ·
     replace H:=in_ H;obtain ⟨aW,H⟩:=H;obtain ⟨ax,A_20,H⟩:=bnd_ H;replace H:=i0_ H;obtain ⟨c9,H⟩:=H;have aK:=eq_true c9;have aX:decide (ae.size+ax.size≤9223372036854775807)=true:=decide_eq_true c9;(try have a8:(9223372036854775807<ae.size+ax.size)=False:=eq_false (Nat.not_lt.2 c9));have H':=A_ H;clear H;exact spec_l15Row.z0
   ·
    by_cases c10:(l0.length:Int)=0
    ·
     rw [if_pos c10] at H;have aA:((l0.length:Int) == 0)=true:=beq_iff_eq.mpr c10;have aN:((l0.length:Int) != 0)=false:=bne_eq_false_iff_eq.mpr c10;clear c10;obtain rfl:=Option.some.inj H;exact spec_l15Row.z0
    ·
     rw [if_neg c10] at H;have aA:((l0.length:Int) == 0)=false:=beq_eq_false_iff_ne.mpr c10;have aN:((l0.length:Int) != 0)=true:=bne_iff_ne.mpr c10;have bd:¬(l0=[]):=fun h_=>c10 (by rw [h_];rfl);obtain rfl:=Option.some.inj H;exact spec_l15Row.z0
def spec_l15Step.f (k:Nat) (a0:Int):Option (ByteArray):=if a0<0 then ((spec_l1Number.f k (wrap64 (-a0))).bind fun aC=>(if 1+aC.size≤9223372036854775807 then (some ((⟨#[45]⟩:ByteArray)++aC)) else (none))) else ((spec_l1Number.f k a0).bind fun aY=>(some aY))
theorem spec_l15Step.mono:∀a0 k,LeO (spec_l15Step.f k a0) (spec_l15Step.f (k+1) a0):=by
 intro a0 k;unfold spec_l15Step.f;repeat' (with_reducible first|exact spec_l1Number.mono _ _|exact mr_|exact mn_|refine mi_ ?_ ?_|refine mb_ ?_ (fun _=>?_))
theorem spec_l15Step.z0 {P_:Prop} (h_:P_:=by go_wp2_with (first|((with_reducible refine gate_callee (f:=122) rfl ?_);refine ca_ (some 7) Tryz.func122 _ (spec_l1Number.calls k _ _ _ A_7.out) ?_;rintro e w_ ⟨rfl,hb⟩;refine ⟨_,rfl,?_⟩;replace st:=st.ev hb;clear cl hb;have cl:=cl_ st)|((with_reducible refine gate_callee (f:=122) rfl ?_);refine ca_ (some 10) Tryz.func122 _ (spec_l1Number.calls k _ _ _ A_10.out) ?_;rintro e w_ ⟨rfl,hb⟩;refine ⟨_,rfl,?_⟩;replace st:=st.ev hb;clear cl hb;have cl:=cl_ st));(go_ret;exact ⟨tw_,st.b⟩)):P_:=h_
theorem spec_l15Step.calls (k:Nat) (a0:Int) (r:ByteArray) (w:World) (h:spec_l15Step.f k a0=some r) :
  Calls Tryz.prog 96 #[.int .i64 a0] w fun e w'=>e=.returned (.string r)∧Below w.heap.size w w':=by
 have st:=ST.nil w;have s0:=st;have cl:=cl_ st;have H:=h;clear h;unfold spec_l15Step.f at H;go_enter Tryz.func96,Tryz.ntmps96;replace H:=it_ H;rcases H with ⟨a9,H⟩|⟨a9,H⟩
 ·
  obtain ⟨aC,A_7,H⟩:=bnd_ H;replace H:=i0_ H;obtain ⟨c3,H⟩:=H;have aH:=eq_true c3;have bF:decide (1+aC.size≤9223372036854775807)=true:=decide_eq_true c3;(try have bG:(9223372036854775807<1+aC.size)=False:=eq_false (Nat.not_lt.2 c3));obtain rfl:=Option.some.inj H;exact spec_l15Step.z0
 ·
  obtain ⟨aY,A_10,H⟩:=bnd_ H;obtain rfl:=Option.some.inj H;exact spec_l15Step.z0
def spec_PlaceText.l0:Nat→ByteArray→Int→List Int→Int→List Int→Option (ByteArray)
 |0,_,_,_,_,_=>none
 |k+1,x3,x4,ao,ap,ac=>if x4<(ac.length:Int) then (if x4=0 then (if 0≤x4 then (if 0≤(rd ac x4) then (if (rd ac x4)≤(wrap64 ((rd ac x4)+1)) then (if (wrap64 ((rd ac x4)+1))≤3 then (if 0+((⟨#[97,98,99]⟩:ByteArray).extract ((rd ac x4):Int).toNat ((wrap64 ((rd ac x4)+1)):Int).toNat).size≤9223372036854775807 then (spec_PlaceText.l0 k ((⟨#[]⟩:ByteArray)++((⟨#[97,98,99]⟩:ByteArray).extract ((rd ac x4):Int).toNat ((wrap64 ((rd ac x4)+1)):Int).toNat)) (wrap64 (x4+1)) ao ap ac) else (none)) else (none)) else (none)) else (none)) else (none)) else (if 0≤x4 then (if 0≤(rd ac x4) then (if (rd ac x4)≤(wrap64 ((rd ac x4)+1)) then (if (wrap64 ((rd ac x4)+1))≤3 then (if x3.size+((⟨#[97,98,99]⟩:ByteArray).extract ((rd ac x4):Int).toNat ((wrap64 ((rd ac x4)+1)):Int).toNat).size≤9223372036854775807 then (spec_PlaceText.l0 k (x3++((⟨#[97,98,99]⟩:ByteArray).extract ((rd ac x4):Int).toNat ((wrap64 ((rd ac x4)+1)):Int).toNat)) (wrap64 (x4+1)) ao ap ac) else (none)) else (none)) else (none)) else (none)) else (none))) else ((spec_l15Row.f k ao).bind fun ag=>(if ag.size+1≤9223372036854775807 then ((spec_l15Step.f k ap).bind fun ai=>(if (ag++(⟨#[32]⟩:ByteArray)).size+ai.size≤9223372036854775807 then (if ((ag++(⟨#[32]⟩:ByteArray))++ai).size+1≤9223372036854775807 then (if (((ag++(⟨#[32]⟩:ByteArray))++ai)++(⟨#[32]⟩:ByteArray)).size+x3.size≤9223372036854775807 then (some ((((ag++(⟨#[32]⟩:ByteArray))++ai)++(⟨#[32]⟩:ByteArray))++x3)) else (none)) else (none)) else (none))) else (none)))
def spec_PlaceText.f (k:Nat) (ak:List Int) (a0_1:Int) (ab:List Int):Option (ByteArray):=(spec_PlaceOk.f k ak a0_1 ab).bind fun aU=>(if aU=true then (spec_PlaceText.l0 k (⟨#[46]⟩:ByteArray) 0 ak a0_1 ab) else (some (⟨#[]⟩:ByteArray)))
def spec_PlaceText.T9:Bool×List (List Nat×List Nat):=(true,[([],[]),([],[]),([1],[1]),([],[]),([2,3],[2,3]),([4],[4]),([],[]),([6],[6]),([],[]),([7,8],[7,8]),([9],[9]),([10],[10]),([5,11],[5,11]),([0,12],[0,12]),([13,0,1,2,3,4,5,6,7,8,9,10,11,12,13],[0,13])])
def spec_PlaceText.B9:List Nat:=[0,0,2,0,14,30,0,64,0,448,960,1984,4094,8191,16383]
theorem spec_PlaceText.tab9:rtab .any (opsOf Tryz.f57 9)=spec_PlaceText.T9:=by kernel_rfl
theorem spec_PlaceText.bits9:waitsOk spec_PlaceText.T9.2 spec_PlaceText.B9=true:=by kernel_rfl
def spec_PlaceText.T10:Bool×List (List Nat×List Nat):=(true,[([],[]),([0],[0]),([1],[1]),([2],[2]),([],[]),([4],[4]),([5,2],[5]),([3,6],[3,6]),([7],[7]),([],[]),([8,9],[8,9]),([10,6,0,1,2,3,4,5,6,7,8,9,10],[10])])
def spec_PlaceText.B10:List Nat:=[0,1,3,7,0,16,55,127,255,0,1023,2047]
theorem spec_PlaceText.tab10:rtab .any (opsOf Tryz.f57 10)=spec_PlaceText.T10:=by kernel_rfl
theorem spec_PlaceText.bits10:waitsOk spec_PlaceText.T10.2 spec_PlaceText.B10=true:=by kernel_rfl
theorem spec_PlaceText.calls (k:Nat) (ay:Option Addr) (az:Nat) (ak:List Int) (a0_1:Int) (am:Option Addr) (an:Nat) (ab:List Int) (r:ByteArray) (w:World) (hr0_0:Kd.C (Kd.int .i64) w ay ak.length ak) (hc0_0:ak.length≤az) (hr0_2:Kd.C (Kd.int .i64) w am ab.length ab) (hc0_2:ab.length≤an) (h:spec_PlaceText.f k ak a0_1 ab=some r) :
  Calls Tryz.prog 57 #[.agg #[.slice ay ak.length az,.int .i64 a0_1,.slice am ab.length an]] w fun e w'=>e=.returned (.string r)∧Below w.heap.size w w':=by
 have hu35:=Tryz.underlying35;have st:=((ST.nil w).c hr0_0 hc0_0).c hr0_2 hc0_2;have s0:=st;have cl:=cl_ st;have H:=h;clear h;unfold spec_PlaceText.f at H;go_enter Tryz.func57,Tryz.ntmps57;obtain ⟨aU,A_6,H⟩:=bnd_ H;rcases bx_ aU with rfl|rfl
 ·
  replace H:=bt_ H;have H':=A_ H;clear H;go_wp2_with (first|((with_reducible refine gate_dst (N:=1) rfl ?_);refine al_ st ?_;clear st cl;intro g1 w_ st;have cl:=cl_ st)|((with_reducible refine gate_callee (f:=94) rfl ?_);refine ca_ (some 6) Tryz.func94 _ (spec_PlaceOk.calls k ay az _ _ am an _ _ _ (gt_ st) (gt_ st) (gt_ st) (gt_ st) A_6.out) ?_;rintro e w_ ⟨rfl,hb⟩;refine ⟨_,rfl,?_⟩;replace st:=st.ev hb;clear cl hb;have cl:=cl_ st))
  go_loopg [3,4] k (fun kq v3 v4 w'=>∃(ae:ByteArray) (aa:Int),v3=.string ae∧v4=.int .i64 aa∧Aside0 (spec_PlaceText.l0 kq ae aa ak a0_1 ab=some r)∧Aside0 (kq≤k)∧ST w [CA (Kd.int .i64) w ay ak az,CA (Kd.int .i64) w am ab an] [Bx g1 #[.slice ay ak.length az,.int .i64 a0_1,.slice am ab.length an] 35] w')
  case atStart=>exact ⟨((⟨#[46]⟩:ByteArray)),(0),tx_,tx_,H',⟨Nat.le_refl _⟩,st.en⟩
  case round =>
   clear H' st cl;obtain ⟨ae,aa,rfl,rfl,HA,HK1,st⟩:=hrel;have cl:=cl_ st
   cases gk with
   |zero=>exact absurd HA.out (by simp [spec_PlaceText.l0])
   |succ k1 =>
    have H:=HA.out;clear HA;simp only [spec_PlaceText.l0] at H;replace H:=it_ H;rcases H with ⟨aH,H⟩|⟨aH,H⟩
    ·
     by_cases c4:aa=0
     ·
      rw [if_pos c4] at H;have aE:(aa == 0)=true:=beq_iff_eq.mpr c4;have bb:(aa != 0)=false:=bne_eq_false_iff_eq.mpr c4;clear c4;replace H:=in_ H;obtain ⟨al,H⟩:=H;replace H:=i0_ H;obtain ⟨c6,H⟩:=H;have aJ:=eq_true c6;have aV:decide (0≤(rd ab aa))=true:=decide_eq_true c6;clear c6;replace H:=i0_ H;obtain ⟨c7,H⟩:=H;have aQ:=eq_true c7;have aR:decide ((rd ab aa)≤(wrap64 ((rd ab aa)+1)))=true:=decide_eq_true c7;replace H:=i0_ H;obtain ⟨c8,H⟩:=H;have aW:=eq_true c8;have bc:decide ((wrap64 ((rd ab aa)+1))≤3)=true:=decide_eq_true c8;replace H:=i0_ H;obtain ⟨c9,H⟩:=H;have aK:=eq_true c9;have aX:decide (0+((⟨#[97,98,99]⟩:ByteArray).extract ((rd ab aa):Int).toNat ((wrap64 ((rd ab aa)+1)):Int).toNat).size≤9223372036854775807)=true:=decide_eq_true c9;(try have a8:(9223372036854775807<0+((⟨#[97,98,99]⟩:ByteArray).extract ((rd ab aa):Int).toNat ((wrap64 ((rd ab aa)+1)):Int).toNat).size)=False:=eq_false (Nat.not_lt.2 c9));(try have bH:(9223372036854775807<0+(((⟨#[97,98,99]⟩:ByteArray).extract ((rd ab aa):Int).toNat ((wrap64 ((rd ab aa)+1)):Int).toNat).size))=False:=eq_false (by have h:=c9;simp only [ByteArray.size_append] at h;simp only [ByteArray.size] at h ⊢;simp at h ⊢;omega));(try have aZ:=c9);(try simp only [ByteArray.size_append,ByteArray.size_extract] at aZ);(try simp only [show (⟨#[97,98,99]⟩:ByteArray).size=3 from rfl] at aZ);have H':=A_ H;clear H;(try go_wp2);(all_goals ((try clear ix_);obtain ⟨p_,q_,ad_,e_,aq⟩:=a2_ (Kd.at_int (gC_ s0 (Kd.int .i64) am ab) aa);have ix541:=ix1_ Tryz.underlying33 e_ p_ q_ (c:=an);clear e_;obtain ⟨p_,q_,ad_,e_,ar⟩:=a2_ (Kd.at_int (gC_ s0 (Kd.int .i64) am ab) aa);have ix542:=ix1_ Tryz.underlying33 e_ p_ q_ (c:=an);clear e_;refine rg_ st [] ?_;clear st cl;intro w_ st hs;have cl:=cl_ st;refine with_tabW spec_PlaceText.tab9 spec_PlaceText.bits9 (fun HT_ HW_=>?_);refine pv_ 0 ?_;refine pv_ 1 ?_;refine pv_ 3 ?_;refine pv_ 6 ?_;refine pv_ 8 ?_;refine tu_ 2 ?_ (hy:=by intro w' s_;have cl:=cl_ s_;have y541_0:=cb_ s_ aq;have y542_0:=cb_ s_ ar;go_simp;first|with_reducible rfl|(rw [if_neg (by omega)];done));refine tu_ 7 ?_ (hy:=by intro w' s_;have cl:=cl_ s_;have y541_0:=cb_ s_ aq;have y542_0:=cb_ s_ ar;go_simp;first|with_reducible rfl|(rw [if_neg (by omega)];done));refine pv_ 4 ?_;refine pv_ 9 ?_;refine tu_ 5 ?_ (hy:=by intro w' s_;have cl:=cl_ s_;have y541_0:=cb_ s_ aq;have y542_0:=cb_ s_ ar;go_simp;first|with_reducible rfl|(rw [if_neg (by omega)];done));refine tu_ 10 ?_ (hy:=by intro w' s_;have cl:=cl_ s_;have y541_0:=cb_ s_ aq;have y542_0:=cb_ s_ ar;go_simp;first|with_reducible rfl|(rw [if_neg (by omega)];done));refine pv_ 11 ?_;refine pv_ 12 ?_;refine pv_ 13 ?_;refine pv_ 14 ?_;refine done_ (done_of HT_.out (by kernel_rfl)) ?_;all_goals (try go_wp2)))
      go_roundg k1
      case measure=>have:=HK1.out;omega
      case rel=>exact ⟨((⟨#[]⟩:ByteArray)++((⟨#[97,98,99]⟩:ByteArray).extract ((rd ab aa):Int).toNat ((wrap64 ((rd ab aa)+1)):Int).toNat)),(wrap64 (aa+1)),tx_,tx_,H',⟨by have:=HK1.out;omega⟩,st.en⟩
     ·
      rw [if_neg c4] at H;have aE:(aa == 0)=false:=beq_eq_false_iff_ne.mpr c4;have bb:(aa != 0)=true:=bne_iff_ne.mpr c4;replace H:=in_ H;obtain ⟨aA,H⟩:=H;replace H:=i0_ H;obtain ⟨c11,H⟩:=H;have be:=eq_true c11;have bf:decide (0≤(rd ab aa))=true:=decide_eq_true c11;clear c11;replace H:=i0_ H;obtain ⟨c12,H⟩:=H;have aF:=eq_true c12;have a3:decide ((rd ab aa)≤(wrap64 ((rd ab aa)+1)))=true:=decide_eq_true c12;replace H:=i0_ H;obtain ⟨c13,H⟩:=H;have a4:=eq_true c13;have a5:decide ((wrap64 ((rd ab aa)+1))≤3)=true:=decide_eq_true c13;replace H:=i0_ H;obtain ⟨c14,H⟩:=H;have aO:=eq_true c14;have bg:decide (ae.size+((⟨#[97,98,99]⟩:ByteArray).extract ((rd ab aa):Int).toNat ((wrap64 ((rd ab aa)+1)):Int).toNat).size≤9223372036854775807)=true:=decide_eq_true c14;(try have bh:(9223372036854775807<ae.size+((⟨#[97,98,99]⟩:ByteArray).extract ((rd ab aa):Int).toNat ((wrap64 ((rd ab aa)+1)):Int).toNat).size)=False:=eq_false (Nat.not_lt.2 c14));(try have bi:(9223372036854775807<ae.size+(((⟨#[97,98,99]⟩:ByteArray).extract ((rd ab aa):Int).toNat ((wrap64 ((rd ab aa)+1)):Int).toNat).size))=False:=eq_false (by have h:=c14;simp only [ByteArray.size_append] at h;simp only [ByteArray.size] at h ⊢;simp at h ⊢;omega));(try have aP:=c14);(try simp only [ByteArray.size_append,ByteArray.size_extract] at aP);(try simp only [show (⟨#[97,98,99]⟩:ByteArray).size=3 from rfl] at aP);have H':=A_ H;clear H;(try go_wp2);(all_goals ((try clear ix_);obtain ⟨p_,q_,ad_,e_,au⟩:=a2_ (Kd.at_int (gC_ s0 (Kd.int .i64) am ab) aa);have ix543:=ix1_ Tryz.underlying33 e_ p_ q_ (c:=an);clear e_;obtain ⟨p_,q_,ad_,e_,av⟩:=a2_ (Kd.at_int (gC_ s0 (Kd.int .i64) am ab) aa);have ix544:=ix1_ Tryz.underlying33 e_ p_ q_ (c:=an);clear e_;refine rg_ st [] ?_;clear st cl;intro w_ st hs;have cl:=cl_ st;refine with_tabW spec_PlaceText.tab9 spec_PlaceText.bits9 (fun HT_ HW_=>?_);refine pv_ 0 ?_;refine pv_ 1 ?_;refine pv_ 3 ?_;refine pv_ 6 ?_;refine pv_ 8 ?_;refine tu_ 2 ?_ (hy:=by intro w' s_;have cl:=cl_ s_;have y543_0:=cb_ s_ au;have y544_0:=cb_ s_ av;go_simp;first|with_reducible rfl|(rw [if_neg (by omega)];done));refine tu_ 7 ?_ (hy:=by intro w' s_;have cl:=cl_ s_;have y543_0:=cb_ s_ au;have y544_0:=cb_ s_ av;go_simp;first|with_reducible rfl|(rw [if_neg (by omega)];done));refine pv_ 4 ?_;refine pv_ 9 ?_;refine tu_ 5 ?_ (hy:=by intro w' s_;have cl:=cl_ s_;have y543_0:=cb_ s_ au;have y544_0:=cb_ s_ av;go_simp;first|with_reducible rfl|(rw [if_neg (by omega)];done));refine tu_ 10 ?_ (hy:=by intro w' s_;have cl:=cl_ s_;have y543_0:=cb_ s_ au;have y544_0:=cb_ s_ av;go_simp;first|with_reducible rfl|(rw [if_neg (by omega)];done));refine pv_ 11 ?_;refine pv_ 12 ?_;refine pv_ 13 ?_;refine pv_ 14 ?_;refine done_ (done_of HT_.out (by kernel_rfl)) ?_;all_goals (try go_wp2)))
      go_roundg k1
      case measure=>have:=HK1.out;omega
      case rel=>exact ⟨(ae++((⟨#[97,98,99]⟩:ByteArray).extract ((rd ab aa):Int).toNat ((wrap64 ((rd ab aa)+1)):Int).toNat)),(wrap64 (aa+1)),tx_,tx_,H',⟨by have:=HK1.out;omega⟩,st.en⟩
    ·
     obtain ⟨ag,A_33,H⟩:=bnd_ H;replace H:=i0_ H;obtain ⟨c15,H⟩:=H;have bj:=eq_true c15;have bk:decide (ag.size+1≤9223372036854775807)=true:=decide_eq_true c15;(try have bl:(9223372036854775807<ag.size+1)=False:=eq_false (Nat.not_lt.2 c15));obtain ⟨ai,A_37,H⟩:=bnd_ H;replace H:=i0_ H;obtain ⟨c16,H⟩:=H;have bm:=eq_true c16;have bn:decide ((ag++(⟨#[32]⟩:ByteArray)).size+ai.size≤9223372036854775807)=true:=decide_eq_true c16;(try have bo:(9223372036854775807<(ag++(⟨#[32]⟩:ByteArray)).size+ai.size)=False:=eq_false (Nat.not_lt.2 c16));(try have bp:(9223372036854775807<ag.size+1+ai.size)=False:=eq_false (by have h:=c16;simp only [ByteArray.size_append] at h;simp only [ByteArray.size] at h ⊢;simp at h ⊢;omega));replace H:=i0_ H;obtain ⟨c17,H⟩:=H;have bq:=eq_true c17;have br:decide (((ag++(⟨#[32]⟩:ByteArray))++ai).size+1≤9223372036854775807)=true:=decide_eq_true c17;(try have bs:(9223372036854775807<((ag++(⟨#[32]⟩:ByteArray))++ai).size+1)=False:=eq_false (Nat.not_lt.2 c17));(try have bu:(9223372036854775807<ag.size+1+ai.size+1)=False:=eq_false (by have h:=c17;simp only [ByteArray.size_append] at h;simp only [ByteArray.size] at h ⊢;simp at h ⊢;omega));replace H:=i0_ H;obtain ⟨c18,H⟩:=H;have bv:=eq_true c18;have bw:decide ((((ag++(⟨#[32]⟩:ByteArray))++ai)++(⟨#[32]⟩:ByteArray)).size+ae.size≤9223372036854775807)=true:=decide_eq_true c18;(try have bx:(9223372036854775807<(((ag++(⟨#[32]⟩:ByteArray))++ai)++(⟨#[32]⟩:ByteArray)).size+ae.size)=False:=eq_false (Nat.not_lt.2 c18));(try have bz:(9223372036854775807<ag.size+1+ai.size+1+ae.size)=False:=eq_false (by have h:=c18;simp only [ByteArray.size_append] at h;simp only [ByteArray.size] at h ⊢;simp at h ⊢;omega));obtain rfl:=Option.some.inj H;(try go_wp2);(all_goals (refine rg_ st [] ?_;clear st cl;intro w_ st hs;have cl:=cl_ st;refine with_tabW spec_PlaceText.tab10 spec_PlaceText.bits10 (fun HT_ HW_=>?_);refine pv_ 0 ?_;refine pv_ 4 ?_;refine pv_ 9 ?_;refine tu_ 1 ?_;refine tu_ 5 ?_;refine ov_ 2 (fun K hK=>?_);refine ca2_ (some 33) Tryz.func95 _ (spec_l15Row.calls k1 ay az _ _ _ (gt_ st) (gt_ st) A_33.out) ?_;rintro e w_ ⟨rfl,hb⟩;refine ⟨_,rfl,?_⟩;replace st:=st.ev hb;clear cl hb;have cl:=cl_ st;refine hK.out _ _ st.en (fun hs=>?_);clear hK K;refine nr_ 33 ?_;refine pv_ 3 ?_;refine ov_ 6 (fun K hK=>?_);refine ca2_ (some 37) Tryz.func96 _ (spec_l15Step.calls k1 _ _ _ A_37.out) ?_;rintro e w_ ⟨rfl,hb⟩;refine ⟨_,rfl,?_⟩;replace st:=st.ev hb;clear cl hb;have cl:=cl_ st;refine hK.out _ _ st.en (fun hs=>?_);clear hK K;refine nr_ 37 ?_;refine pv_ 7 ?_;refine pv_ 8 ?_;refine pv_ 10 ?_;refine pv_ 11 ?_;refine done_ (done_of HT_.out (by kernel_rfl)) ?_;all_goals (try go_wp2)));go_ret;exact ⟨tw_,st.b⟩
 ·
  replace H:=bf_ H;obtain rfl:=Option.some.inj H;go_wp2_with (first|((with_reducible refine gate_dst (N:=1) rfl ?_);refine al_ st ?_;clear st cl;intro g1 w_ st;have cl:=cl_ st)|((with_reducible refine gate_callee (f:=94) rfl ?_);refine ca_ (some 6) Tryz.func94 _ (spec_PlaceOk.calls k ay az _ _ am an _ _ _ (gt_ st) (gt_ st) (gt_ st) (gt_ st) A_6.out) ?_;rintro e w_ ⟨rfl,hb⟩;refine ⟨_,rfl,?_⟩;replace st:=st.ev hb;clear cl hb;have cl:=cl_ st));go_ret;exact ⟨tw_,st.b⟩
def spec_l1Cut.l0:Nat→ByteArray→Int→List ByteArray→Int→Int→Option (List ByteArray)
 |0,_,_,_,_,_=>none
 |k+1,x0,x1,x5,x6,x7=>if x7<(x0.size:Int) then (if 0≤x7 then (if (bt x0 x7)=x1 then (if 0≤x6 then (if x6≤x7 then (if x7≤(x0.size:Int) then (if x5.length<8796093022208 then (spec_l1Cut.l0 k x0 x1 (x5++[x0.extract (x6:Int).toNat (x7:Int).toNat]) (wrap64 (x7+1)) (wrap64 (x7+1))) else (none)) else (none)) else (none)) else (none)) else (spec_l1Cut.l0 k x0 x1 x5 x6 (wrap64 (x7+1)))) else (none)) else (if 0≤x6 then (if x6≤(x0.size:Int) then (if x5.length<8796093022208 then (some (x5++[x0.extract (x6:Int).toNat x0.size])) else (none)) else (none)) else (none))
def spec_l1Cut.f (k:Nat) (a0:ByteArray) (a1:Int):Option (List ByteArray):=spec_l1Cut.l0 k a0 a1 (([]:List ByteArray)) 0 0
theorem spec_l1Cut.z0 {P_:Prop} (h_:P_:=by go_wp2_with (first|((with_reducible refine gate_dst (N:=26) rfl ?_);refine ap_ aD aj (a0.extract (ah:Int).toNat (af:Int).toNat) [.string (a0.extract (ah:Int).toNat (af:Int).toNat)] ((.string ⟨#[]⟩)) 16 st Tryz.underlying93 ?_ (hl:=by have:=a6.out;omega);clear st cl;intro P26 q26 w_ st;have cl:=cl_ st)|((with_reducible refine gate_dst (N:=34) rfl ?_);refine ap_ aD aj (a0.extract (ah:Int).toNat a0.size) [.string (a0.extract (ah:Int).toNat a0.size)] ((.string ⟨#[]⟩)) 16 st Tryz.underlying93 ?_ (hl:=by have:=a7.out;omega);clear st cl;intro P34 q34 w_ st;have cl:=cl_ st));first|(go_roundg k1;(case measure=>have:=HK1.out;omega);(case rel=>exact ⟨((aj++[a0.extract (ah:Int).toNat (af:Int).toNat])),(wrap64 (af+1)),(wrap64 (af+1)),P26,q26,tx_,tx_,tx_,H',⟨by have:=HK1.out;omega⟩,st.en⟩))|(go_roundg k1;(case measure=>have:=HK1.out;omega);(case rel=>exact ⟨(aj),(ah),(wrap64 (af+1)),aD,aL,tx_,tx_,tx_,H',⟨by have:=HK1.out;omega⟩,st.en⟩))|(go_ret;exact ⟨.slice P34 (aj++[a0.extract (ah:Int).toNat a0.size]).length q34,tw_,gtl_ st,st.b⟩)):P_:=h_
theorem spec_l1Cut.calls (k:Nat) (a0:ByteArray) (a1:Int) (r:List ByteArray) (w:World) (h:spec_l1Cut.f k a0 a1=some r) :
  Calls Tryz.prog 105 #[.string a0,.int .u8 a1] w fun e w'=>∃v0_:Value,e=.returned (v0_)∧Kd.R Kd.string 9 w' w.heap.size (fun _=>True) v0_ r∧Below w.heap.size w w':=by
 have st:=ST.nil w;have s0:=st;have cl:=cl_ st;have H:=h;clear h;unfold spec_l1Cut.f at H;go_enter Tryz.func105,Tryz.ntmps105;have H':=A_ H;clear H;go_wp2_with (first|((with_reducible refine gate_dst (N:=8) rfl ?_);refine nwl_ Kd.string 9 (([]:List ByteArray):List ByteArray) [] st ?_;clear st cl;intro B8_0 d8_0 w_ st;have cl:=cl_ st))
 go_loopg [5,6,7] k (fun kq v5 v6 v7 w'=>∃(aj:List ByteArray) (ah:Int) (af:Int) (aD:Option Addr) (aL:Nat),v5=.slice aD aj.length aL∧v6=.int .i64 ah∧v7=.int .i64 af∧Aside0 (spec_l1Cut.l0 kq a0 a1 aj ah af=some r)∧Aside0 (kq≤k)∧ST w [] [AR Kd.string 9 w.heap.size (.slice aD aj.length aL) aj] w')
 case atStart=>exact ⟨(([]:List ByteArray)),(0),(0),B8_0,d8_0,tx_,tx_,tx_,H',⟨Nat.le_refl _⟩,st.en⟩
 case round =>
  clear H' st cl;obtain ⟨aj,ah,af,aD,aL,rfl,rfl,rfl,HA,HK1,st⟩:=hrel;have cl:=cl_ st
  cases gk with
  |zero=>exact absurd HA.out (by simp [spec_l1Cut.l0])
  |succ k1 =>
   have H:=HA.out;clear HA;simp only [spec_l1Cut.l0] at H;replace H:=it_ H;rcases H with ⟨aE,H⟩|⟨aE,H⟩
   ·
    replace H:=in_ H;obtain ⟨al,H⟩:=H;have y6a:(0≤(af:Int))=True:=eq_true (by first|exact od_|omega);have y6b:((af:Int)<(a0.size:Int))=True:=eq_true (by first|exact od_|omega);have y6x:=bt_at a0 af;by_cases c7:(bt a0 af)=a1
    ·
     rw [if_pos c7] at H;have aQ:((bt a0 af) == a1)=true:=beq_iff_eq.mpr c7;have aR:((bt a0 af) != a1)=false:=bne_eq_false_iff_eq.mpr c7;clear c7;replace H:=i0_ H;obtain ⟨c8,H⟩:=H;have aW:=eq_true c8;have bc:decide (0≤ah)=true:=decide_eq_true c8;clear c8;replace H:=i0_ H;obtain ⟨c9,H⟩:=H;have aK:=eq_true c9;have aX:decide (ah≤af)=true:=decide_eq_true c9;clear c9;replace H:=i0_ H;obtain ⟨c10,H⟩:=H;have aA:=eq_true c10;have aN:decide (af≤(a0.size:Int))=true:=decide_eq_true c10;clear c10;replace H:=il_ H;obtain ⟨a6,H⟩:=H;have H':=A_ H;clear H;exact spec_l1Cut.z0
    ·
     rw [if_neg c7] at H;have aQ:((bt a0 af) == a1)=false:=beq_eq_false_iff_ne.mpr c7;have aR:((bt a0 af) != a1)=true:=bne_iff_ne.mpr c7;have H':=A_ H;clear H;exact spec_l1Cut.z0
   ·
    replace H:=i0_ H;obtain ⟨c12,H⟩:=H;have aF:=eq_true c12;have a3:decide (0≤ah)=true:=decide_eq_true c12;clear c12;replace H:=i0_ H;obtain ⟨c13,H⟩:=H;have a4:=eq_true c13;have a5:decide (ah≤(a0.size:Int))=true:=decide_eq_true c13;clear c13;replace H:=il_ H;obtain ⟨a7,H⟩:=H;obtain rfl:=Option.some.inj H;exact spec_l1Cut.z0
mutual
def spec_l1Digits.j0:Nat→ByteArray→Bool→Option (Int)
 |0,_,_=>none
 |k+1,x0,x18=>if x18=true then (some (-1)) else (spec_l1Digits.l0 k x0 0 0)
def spec_l1Digits.l0:Nat→ByteArray→Int→Int→Option (Int)
 |0,_,_,_=>none
 |k+1,x0,x3,x4=>if x4<(x0.size:Int) then (if 0≤x4 then (if (bt x0 x4)<48 then (some (-1)) else (if (bt x0 x4)>57 then (some (-1)) else (spec_l1Digits.l0 k x0 (wrap64 ((wrap64 (10*x3))+(((bt x0 x4) - 48) % 256))) (wrap64 (x4+1))))) else (none)) else (some x3)
end
def spec_l1Digits.f (k:Nat) (a0:ByteArray):Option (Int):=(spec_l1In.f (a0.size:Int) 1 6).bind fun aG=>(if aG=true then (if (a0.size:Int)>1 then (if 0<(a0.size:Int) then (spec_l1Digits.j0 k a0 ((bt a0 0) == 48)) else (none)) else (spec_l1Digits.j0 k a0 false)) else (spec_l1Digits.j0 k a0 true))
theorem spec_l1Digits.mono_l:∀k,(∀y0 y1,LeO (spec_l1Digits.j0 k y0 y1) (spec_l1Digits.j0 (k+1) y0 y1))∧(∀y0 y1 y2,LeO (spec_l1Digits.l0 k y0 y1 y2) (spec_l1Digits.l0 (k+1) y0 y1 y2))
 |0=>⟨fun _ _ r h=>by simp [spec_l1Digits.j0] at h,fun _ _ _ r h=>by simp [spec_l1Digits.l0] at h⟩
 |k+1=>by
  obtain ⟨ih0,ih1⟩:=spec_l1Digits.mono_l k
  refine ⟨?_,?_⟩
  ·
   intro y0 y1
   unfold spec_l1Digits.j0
   repeat' (with_reducible first|exact ih0 _ _|exact ih1 _ _ _|exact mr_|exact mn_|refine mi_ ?_ ?_|refine mb_ ?_ (fun _=>?_))
  ·
   intro y0 y1 y2
   unfold spec_l1Digits.l0
   repeat' (with_reducible first|exact ih0 _ _|exact ih1 _ _ _|exact mr_|exact mn_|refine mi_ ?_ ?_|refine mb_ ?_ (fun _=>?_))
theorem spec_l1Digits.mono:∀a0 k,LeO (spec_l1Digits.f k a0) (spec_l1Digits.f (k+1) a0):=by
 intro a0 k;obtain ⟨ih0,ih1⟩:=spec_l1Digits.mono_l k;unfold spec_l1Digits.f;repeat' (with_reducible first|exact ih0 _ _|exact ih1 _ _ _|exact mr_|exact mn_|refine mi_ ?_ ?_|refine mb_ ?_ (fun _=>?_))
theorem spec_l1Digits.calls (k:Nat) (a0:ByteArray) (r:Int) (w:World) (h:spec_l1Digits.f k a0=some r) :
  Calls Tryz.prog 107 #[.string a0] w fun e w'=>e=.returned (.int .i64 r)∧Drawn0 w w':=by
 have H:((spec_l1In.f (a0.size:Int) 1 6).bind fun aG=>(if aG=true then (if (a0.size:Int)>1 then (if 0<(a0.size:Int) then (spec_l1Digits.j0 k a0 ((bt a0 0) == 48)) else (none)) else (spec_l1Digits.j0 k a0 false)) else (spec_l1Digits.j0 k a0 true)))=some r:=h;clear h;have HC2:=A_ H;clear H;go_enter Tryz.func107,Tryz.ntmps107
 go_upto_region 1 with (fail)
 go_cut [18] (fun bI wc=>∃(kq:Nat) (aB:Bool),bI=.bool aB∧Aside0 (spec_l1Digits.j0 kq a0 aB=some r)∧Aside0 (kq≤k)∧Drawn0 w wc)
 case first =>
  have H:=HC2.out;clear HC2;obtain ⟨aG,A3,H⟩:=bnd_ H;(try dsimp only at H);by_cases c4:aG=true
  ·
   subst c4;replace H:(if (a0.size:Int)>1 then (if 0<(a0.size:Int) then (spec_l1Digits.j0 k a0 ((bt a0 0) == 48)) else (none)) else (spec_l1Digits.j0 k a0 false))=some r:=by rw [if_pos rfl] at H;exact H
   by_cases c5:(a0.size:Int)>1
   ·
    rw [if_pos c5] at H;have al:decide (1<(a0.size:Int))=true:=decide_eq_true c5;have aI:decide (1<a0.size)=true:=decide_eq_true (by omega);clear c5;(first|rw [al]|(simp only [i64_w,i32_w];rw [al])|skip);replace H:=i0_ H;obtain ⟨c6,H⟩:=H;have aJ:decide (0<(a0.size:Int))=true:=decide_eq_true c6;have aV:decide (0<a0.size)=true:=decide_eq_true (by omega);clear c6;have H':=A_ H;clear H;go_wp2_with (first|((with_reducible refine gate_callee (f:=69) rfl ?_);refine gl_ (some 7) Tryz.func69 #[.int .i64 (a0.size:Int),.int .i64 1,.int .i64 6] ?_;(with_reducible refine (spec_l1In.calls (a0.size:Int) 1 6 true _ A3.out).mono ?_);rintro e w' ⟨rfl,⟨nd,rfl⟩⟩;refine ⟨_,rfl,?_⟩;have p7:0≤(0:Int):=(by omega);have q7:0<a0.size:=(by have:(0:Int)<(a0.size:Int):=od_;omega);have hx7:∀h:0<a0.size,((a0[0]'h).toNat:Int)=bt a0 0:=bt_at a0 0;clear p7;have bB:(0<(a0.size:Int))=True:=eq_true (od_);replace q7:=eq_true q7));go_meet
    case rel=>exact ⟨_,(((bt a0 0) == 48)),tx_,H',⟨by first|omega|exact Nat.le_refl _⟩,dz_⟩
   ·
    rw [if_neg c5] at H;have al:decide (1<(a0.size:Int))=false:=decide_eq_false c5;have aI:decide (1<a0.size)=false:=decide_eq_false (by omega);clear c5;(first|rw [al]|(simp only [i64_w,i32_w];rw [al])|skip);have H':=A_ H;clear H;go_wp2_with (first|((with_reducible refine gate_callee (f:=69) rfl ?_);refine gl_ (some 7) Tryz.func69 #[.int .i64 (a0.size:Int),.int .i64 1,.int .i64 6] ?_;(with_reducible refine (spec_l1In.calls (a0.size:Int) 1 6 true _ A3.out).mono ?_);rintro e w' ⟨rfl,⟨nd,rfl⟩⟩;refine ⟨_,rfl,?_⟩));go_meet
    case rel=>exact ⟨_,(false),tx_,H',⟨by first|omega|exact Nat.le_refl _⟩,dz_⟩
  ·
   replace c4:=Bool.eq_false_iff.mpr c4;subst c4;replace H:(spec_l1Digits.j0 k a0 true)=some r:=by rw [if_neg (show ¬(false=true) by decide)] at H;exact H
   have H':=A_ H;clear H;go_wp2_with (first|((with_reducible refine gate_callee (f:=69) rfl ?_);refine gl_ (some 7) Tryz.func69 #[.int .i64 (a0.size:Int),.int .i64 1,.int .i64 6] ?_;(with_reducible refine (spec_l1In.calls (a0.size:Int) 1 6 false _ A3.out).mono ?_);rintro e w' ⟨rfl,⟨nd,rfl⟩⟩;refine ⟨_,rfl,?_⟩));go_meet
   case rel=>exact ⟨_,(true),tx_,H',⟨by first|omega|exact Nat.le_refl _⟩,dz_⟩
 case rest =>
  clear HC2;obtain ⟨kq,aB,rfl,HA,HJ1,⟨mc1,rfl⟩⟩:=hcut
  cases kq with
  |zero=>exact absurd HA.out (by simp [spec_l1Digits.j0])
  |succ kj1 =>
   have H:=HA.out;clear HA;simp only [spec_l1Digits.j0] at H;by_cases c8:aB=true
   ·
    subst c8;replace H:(some (-1))=some r:=by rw [if_pos rfl] at H;exact H
    obtain rfl:=Option.some.inj H;go_wp2;go_ret;exact ⟨tx_,dz_⟩
   ·
    replace c8:=Bool.eq_false_iff.mpr c8;subst c8;replace H:(spec_l1Digits.l0 kj1 a0 0 0)=some r:=by rw [if_neg (show ¬(false=true) by decide)] at H;exact H
    have H':=A_ H;clear H;go_wp2
    go_loopg [3,4] kj1 (fun kq v3 v4 w'=>∃(aM:Int) (ad:Int),v3=.int .i64 aM∧v4=.int .i64 ad∧Aside0 (spec_l1Digits.l0 kq a0 aM ad=some r)∧Aside0 (kq≤kj1)∧Drawn0 w w')
    case atStart=>exact ⟨(0),(0),tx_,tx_,H',⟨Nat.le_refl _⟩,dz_⟩
    case round =>
     clear H';(try clear c8);obtain ⟨aM,ad,rfl,rfl,HA,HK2,⟨m2,rfl⟩⟩:=hrel
     cases gk with
     |zero=>exact absurd HA.out (by simp [spec_l1Digits.l0])
     |succ k2 =>
      have H:=HA.out;clear HA;simp only [spec_l1Digits.l0] at H;replace H:=it_ H;rcases H with ⟨aK,H⟩|⟨aK,H⟩
      ·
       replace H:=in_ H;obtain ⟨aA,H⟩:=H;replace H:=it_ H;rcases H with ⟨aF,H⟩|⟨aF,H⟩
       ·
        obtain rfl:=Option.some.inj H;have p11:0≤(ad:Int):=od_;have q11:ad<(a0.size:Int):=od_;have hx11:=bt_at a0 ad;replace p11:=eq_true p11;replace q11:=eq_true q11;go_wp2;go_ret;exact ⟨tx_,dz_⟩
       ·
        replace H:=ig_ H;rcases H with ⟨aO,H⟩|⟨aO,H⟩
        ·
         obtain rfl:=Option.some.inj H;have p11:0≤(ad:Int):=od_;have q11:ad<(a0.size:Int):=od_;have hx11:=bt_at a0 ad;replace p11:=eq_true p11;replace q11:=eq_true q11;have p13:0≤(ad:Int):=od_;have q13:ad<(a0.size:Int):=od_;have hx13:=bt_at a0 ad;replace p13:=eq_true p13;replace q13:=eq_true q13;go_wp2;go_ret;exact ⟨tx_,dz_⟩
        ·
         have H':=A_ H;clear H;have p11:0≤(ad:Int):=od_;have q11:ad<(a0.size:Int):=od_;have hx11:=bt_at a0 ad;replace p11:=eq_true p11;replace q11:=eq_true q11;have p13:0≤(ad:Int):=od_;have q13:ad<(a0.size:Int):=od_;have hx13:=bt_at a0 ad;replace p13:=eq_true p13;replace q13:=eq_true q13;have p15:0≤(ad:Int):=od_;have q15:ad<(a0.size:Int):=od_;have hx15:=bt_at a0 ad;replace p15:=eq_true p15;replace q15:=eq_true q15;go_wp2
         go_roundg k2
         case measure=>have:=HJ1.out;have:=HK2.out;omega
         case rel=>exact ⟨(wrap64 ((wrap64 (10*aM))+(((bt a0 ad) - 48) % 256))),(wrap64 (ad+1)),tx_,tx_,H',⟨by have:=HJ1.out;have:=HK2.out;omega⟩,dz_⟩
      ·
       obtain rfl:=Option.some.inj H;go_wp2;go_ret;exact ⟨tx_,dz_⟩
end Go.Proofs.YtopboabeigakoaaGreatDoor.MFnStoreNever
