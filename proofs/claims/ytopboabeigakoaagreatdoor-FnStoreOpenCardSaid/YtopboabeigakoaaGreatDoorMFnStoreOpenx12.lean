/- For the law FnStoreOpen: walks of the functions that it reaches: each call returns what the plain function beside it tells. The conditions stand in each statement. -/
import Derived.Test.YtopboabeigakoaaGreatDoorV
import Derived.Test.YtopboabeigakoaaGreatDoorMFnStoreOpenx0
import Derived.Test.YtopboabeigakoaaGreatDoorMFnStoreOpenx9
import Derived.Test.YtopboabeigakoaaGreatDoorMFnStoreOpenx11
namespace Go.Proofs.YtopboabeigakoaaGreatDoor.MFnStoreOpen
open Go.RowKit Go.Proofs.YtopboabeigakoaaGreatDoorW.PrintWords Go.Proofs.YtopboabeigakoaaGreatDoorW.PrintLast Go.Proofs.YtopboabeigakoaaGreatDoorW.PrintMore
attribute [local go_sem] max2_int min2_int max_two min_two max_three min_three max_four min_four   -- for this text's walks alone
set_option linter.unusedVariables false
set_option linter.unusedSimpArgs false
set_option maxHeartbeats 8000000
set_option maxRecDepth 100000
def spec_PlaceText.l0:Nat→ByteArray→Int→List Int→Int→List Int→Option (ByteArray)
 |0,_,_,_,_,_=>none
 |k+1,x3,x4,ao,ap,ac=>if x4<(ac.length:Int) then (if x4=0 then (if 0≤x4 then (if 0≤(rd ac x4) then (if (rd ac x4)≤(wrap64 ((rd ac x4)+1)) then (if (wrap64 ((rd ac x4)+1))≤3 then (if 0+((⟨#[97,98,99]⟩:ByteArray).extract ((rd ac x4):Int).toNat ((wrap64 ((rd ac x4)+1)):Int).toNat).size≤9223372036854775807 then (spec_PlaceText.l0 k ((⟨#[]⟩:ByteArray)++((⟨#[97,98,99]⟩:ByteArray).extract ((rd ac x4):Int).toNat ((wrap64 ((rd ac x4)+1)):Int).toNat)) (wrap64 (x4+1)) ao ap ac) else (none)) else (none)) else (none)) else (none)) else (none)) else (if 0≤x4 then (if 0≤(rd ac x4) then (if (rd ac x4)≤(wrap64 ((rd ac x4)+1)) then (if (wrap64 ((rd ac x4)+1))≤3 then (if x3.size+((⟨#[97,98,99]⟩:ByteArray).extract ((rd ac x4):Int).toNat ((wrap64 ((rd ac x4)+1)):Int).toNat).size≤9223372036854775807 then (spec_PlaceText.l0 k (x3++((⟨#[97,98,99]⟩:ByteArray).extract ((rd ac x4):Int).toNat ((wrap64 ((rd ac x4)+1)):Int).toNat)) (wrap64 (x4+1)) ao ap ac) else (none)) else (none)) else (none)) else (none)) else (none))) else ((spec_l15Row.f k ao).bind fun af=>(if af.size+1≤9223372036854775807 then ((spec_l15Step.f k ap).bind fun ah=>(if (af++(⟨#[32]⟩:ByteArray)).size+ah.size≤9223372036854775807 then (if ((af++(⟨#[32]⟩:ByteArray))++ah).size+1≤9223372036854775807 then (if (((af++(⟨#[32]⟩:ByteArray))++ah)++(⟨#[32]⟩:ByteArray)).size+x3.size≤9223372036854775807 then (some ((((af++(⟨#[32]⟩:ByteArray))++ah)++(⟨#[32]⟩:ByteArray))++x3)) else (none)) else (none)) else (none))) else (none)))
def spec_PlaceText.f (k:Nat) (ak:List Int) (a0_1:Int) (ab:List Int):Option (ByteArray):=(spec_PlaceOk.f k ak a0_1 ab).bind fun aU=>(if aU=true then (spec_PlaceText.l0 k (⟨#[46]⟩:ByteArray) 0 ak a0_1 ab) else (some (⟨#[]⟩:ByteArray)))
def spec_PlaceText.T9:Bool×List (List Nat×List Nat):=(true,[([],[]),([],[]),([1],[1]),([],[]),([2,3],[2,3]),([4],[4]),([],[]),([6],[6]),([],[]),([7,8],[7,8]),([9],[9]),([10],[10]),([5,11],[5,11]),([0,12],[0,12]),([13,0,1,2,3,4,5,6,7,8,9,10,11,12,13],[0,13])])
def spec_PlaceText.B9:List Nat:=[0,0,2,0,14,30,0,64,0,448,960,1984,4094,8191,16383]
theorem spec_PlaceText.tab9:rtab .any (opsOf Tryz.f57 9)=spec_PlaceText.T9:=by kernel_rfl
theorem spec_PlaceText.bits9:waitsOk spec_PlaceText.T9.2 spec_PlaceText.B9=true:=by kernel_rfl
def spec_PlaceText.T10:Bool×List (List Nat×List Nat):=(true,[([],[]),([0],[0]),([1],[1]),([2],[2]),([],[]),([4],[4]),([5,2],[5]),([3,6],[3,6]),([7],[7]),([],[]),([8,9],[8,9]),([10,6,0,1,2,3,4,5,6,7,8,9,10],[10])])
def spec_PlaceText.B10:List Nat:=[0,1,3,7,0,16,55,127,255,0,1023,2047]
theorem spec_PlaceText.tab10:rtab .any (opsOf Tryz.f57 10)=spec_PlaceText.T10:=by kernel_rfl
theorem spec_PlaceText.bits10:waitsOk spec_PlaceText.T10.2 spec_PlaceText.B10=true:=by kernel_rfl
theorem spec_PlaceText.calls (k:Nat) (ay:Option Addr) (az:Nat) (ak:List Int) (a0_1:Int) (am:Option Addr) (an:Nat) (ab:List Int) (r:ByteArray) (w:World) (hr0_0:Kd.C (Kd.int .i64) w ay ak.length ak) (hc0_0:ak.length≤az) (hr0_2:Kd.C (Kd.int .i64) w am ab.length ab) (hc0_2:ab.length≤an) (h:spec_PlaceText.f k ak a0_1 ab=some r) :
  Calls Tryz.prog 57 #[.agg #[.slice ay ak.length az,.int .i64 a0_1,.slice am ab.length an]] w fun e w'=>e=.returned (.string r)∧Below w.heap.size w w':=by
 have hu35:=Tryz.underlying35;have st:=((ST.nil w).c hr0_0 hc0_0).c hr0_2 hc0_2;have s0:=st;have cl:=cl_ st;have H:=h;clear h;unfold spec_PlaceText.f at H;go_enter Tryz.func57,Tryz.ntmps57;obtain ⟨aU,A_6,H⟩:=bnd_ H;rcases bx_ aU with rfl|rfl
 ·
  replace H:=bt_ H;have H':=A_ H;clear H;go_wp2_with (first|((with_reducible refine gate_dst (N:=1) rfl ?_);refine al_ st ?_;clear st cl;intro g1 w_ st;have cl:=cl_ st)|((with_reducible refine gate_callee (f:=94) rfl ?_);refine ca_ (some 6) Tryz.func94 _ (spec_PlaceOk.calls k ay az _ _ am an _ _ _ (gt_ st) (gt_ st) (gt_ st) (gt_ st) A_6.out) ?_;rintro e w_ ⟨rfl,hb⟩;refine ⟨_,rfl,?_⟩;replace st:=st.ev hb;clear cl hb;have cl:=cl_ st))
  go_loopg [3,4] k (fun kq v3 v4 w'=>∃(ai:ByteArray) (aa:Int),v3=.string ai∧v4=.int .i64 aa∧Aside0 (spec_PlaceText.l0 kq ai aa ak a0_1 ab=some r)∧Aside0 (kq≤k)∧ST w [CA (Kd.int .i64) w ay ak az,CA (Kd.int .i64) w am ab an] [Bx g1 #[.slice ay ak.length az,.int .i64 a0_1,.slice am ab.length an] 35] w')
  case atStart=>exact ⟨((⟨#[46]⟩:ByteArray)),(0),tx_,tx_,H',⟨Nat.le_refl _⟩,st.en⟩
  case round =>
   clear H' st cl;obtain ⟨ai,aa,rfl,rfl,HA,HK1,st⟩:=hrel;have cl:=cl_ st
   cases gk with
   |zero=>exact absurd HA.out (by simp [spec_PlaceText.l0])
   |succ k1 =>
    have H:=HA.out;clear HA;simp only [spec_PlaceText.l0] at H;replace H:=it_ H;rcases H with ⟨ax,H⟩|⟨ax,H⟩
    ·
     by_cases c4:aa=0
     ·
      rw [if_pos c4] at H;have aG:(aa == 0)=true:=beq_iff_eq.mpr c4;have aV:(aa != 0)=false:=bne_eq_false_iff_eq.mpr c4;clear c4;replace H:=in_ H;obtain ⟨aq,H⟩:=H;replace H:=i0_ H;obtain ⟨c6,H⟩:=H;have aC:=eq_true c6;have aD:decide (0≤(rd ab aa))=true:=decide_eq_true c6;clear c6;replace H:=i0_ H;obtain ⟨c7,H⟩:=H;have aM:=eq_true c7;have aN:decide ((rd ab aa)≤(wrap64 ((rd ab aa)+1)))=true:=decide_eq_true c7;replace H:=i0_ H;obtain ⟨c8,H⟩:=H;have a8:=eq_true c8;have a9:decide ((wrap64 ((rd ab aa)+1))≤3)=true:=decide_eq_true c8;replace H:=i0_ H;obtain ⟨c9,H⟩:=H;have aW:=eq_true c9;have bb:decide (0+((⟨#[97,98,99]⟩:ByteArray).extract ((rd ab aa):Int).toNat ((wrap64 ((rd ab aa)+1)):Int).toNat).size≤9223372036854775807)=true:=decide_eq_true c9;(try have bB:(9223372036854775807<0+((⟨#[97,98,99]⟩:ByteArray).extract ((rd ab aa):Int).toNat ((wrap64 ((rd ab aa)+1)):Int).toNat).size)=False:=eq_false (Nat.not_lt.2 c9));(try have bC:(9223372036854775807<0+(((⟨#[97,98,99]⟩:ByteArray).extract ((rd ab aa):Int).toNat ((wrap64 ((rd ab aa)+1)):Int).toNat).size))=False:=eq_false (by have h:=c9;simp only [ByteArray.size_append] at h;simp only [ByteArray.size] at h ⊢;simp at h ⊢;omega));(try have aY:=c9);(try simp only [ByteArray.size_append,ByteArray.size_extract] at aY);(try simp only [show (⟨#[97,98,99]⟩:ByteArray).size=3 from rfl] at aY);have H':=A_ H;clear H;(try go_wp2);(all_goals ((try clear ix_);obtain ⟨p_,q_,ad_,e_,ar⟩:=a2_ (Kd.at_int (gC_ s0 (Kd.int .i64) am ab) aa);have ix545:=ix1_ Tryz.underlying33 e_ p_ q_ (c:=an);clear e_;obtain ⟨p_,q_,ad_,e_,au⟩:=a2_ (Kd.at_int (gC_ s0 (Kd.int .i64) am ab) aa);have ix546:=ix1_ Tryz.underlying33 e_ p_ q_ (c:=an);clear e_;refine rg_ st [] ?_;clear st cl;intro w_ st hs;have cl:=cl_ st;refine with_tabW spec_PlaceText.tab9 spec_PlaceText.bits9 (fun HT_ HW_=>?_);refine pv_ 0 ?_;refine pv_ 1 ?_;refine pv_ 3 ?_;refine pv_ 6 ?_;refine pv_ 8 ?_;refine tu_ 2 ?_ (hy:=by intro w' s_;have cl:=cl_ s_;have y545_0:=cb_ s_ ar;have y546_0:=cb_ s_ au;go_simp;first|with_reducible rfl|(rw [if_neg (by omega)];done));refine tu_ 7 ?_ (hy:=by intro w' s_;have cl:=cl_ s_;have y545_0:=cb_ s_ ar;have y546_0:=cb_ s_ au;go_simp;first|with_reducible rfl|(rw [if_neg (by omega)];done));refine pv_ 4 ?_;refine pv_ 9 ?_;refine tu_ 5 ?_ (hy:=by intro w' s_;have cl:=cl_ s_;have y545_0:=cb_ s_ ar;have y546_0:=cb_ s_ au;go_simp;first|with_reducible rfl|(rw [if_neg (by omega)];done));refine tu_ 10 ?_ (hy:=by intro w' s_;have cl:=cl_ s_;have y545_0:=cb_ s_ ar;have y546_0:=cb_ s_ au;go_simp;first|with_reducible rfl|(rw [if_neg (by omega)];done));refine pv_ 11 ?_;refine pv_ 12 ?_;refine pv_ 13 ?_;refine pv_ 14 ?_;refine done_ (done_of HT_.out (by kernel_rfl)) ?_;all_goals (try go_wp2)))
      go_roundg k1
      case measure=>have:=HK1.out;omega
      case rel=>exact ⟨((⟨#[]⟩:ByteArray)++((⟨#[97,98,99]⟩:ByteArray).extract ((rd ab aa):Int).toNat ((wrap64 ((rd ab aa)+1)):Int).toNat)),(wrap64 (aa+1)),tx_,tx_,H',⟨by have:=HK1.out;omega⟩,st.en⟩
     ·
      rw [if_neg c4] at H;have aG:(aa == 0)=false:=beq_eq_false_iff_ne.mpr c4;have aV:(aa != 0)=true:=bne_iff_ne.mpr c4;replace H:=in_ H;obtain ⟨aH,H⟩:=H;replace H:=i0_ H;obtain ⟨c11,H⟩:=H;have bc:=eq_true c11;have bd:decide (0≤(rd ab aa))=true:=decide_eq_true c11;clear c11;replace H:=i0_ H;obtain ⟨c12,H⟩:=H;have aI:=eq_true c12;have aZ:decide ((rd ab aa)≤(wrap64 ((rd ab aa)+1)))=true:=decide_eq_true c12;replace H:=i0_ H;obtain ⟨c13,H⟩:=H;have aJ:=eq_true c13;have a3:decide ((wrap64 ((rd ab aa)+1))≤3)=true:=decide_eq_true c13;replace H:=i0_ H;obtain ⟨c14,H⟩:=H;have aQ:=eq_true c14;have be:decide (ai.size+((⟨#[97,98,99]⟩:ByteArray).extract ((rd ab aa):Int).toNat ((wrap64 ((rd ab aa)+1)):Int).toNat).size≤9223372036854775807)=true:=decide_eq_true c14;(try have bf:(9223372036854775807<ai.size+((⟨#[97,98,99]⟩:ByteArray).extract ((rd ab aa):Int).toNat ((wrap64 ((rd ab aa)+1)):Int).toNat).size)=False:=eq_false (Nat.not_lt.2 c14));(try have bg:(9223372036854775807<ai.size+(((⟨#[97,98,99]⟩:ByteArray).extract ((rd ab aa):Int).toNat ((wrap64 ((rd ab aa)+1)):Int).toNat).size))=False:=eq_false (by have h:=c14;simp only [ByteArray.size_append] at h;simp only [ByteArray.size] at h ⊢;simp at h ⊢;omega));(try have aR:=c14);(try simp only [ByteArray.size_append,ByteArray.size_extract] at aR);(try simp only [show (⟨#[97,98,99]⟩:ByteArray).size=3 from rfl] at aR);have H':=A_ H;clear H;(try go_wp2);(all_goals ((try clear ix_);obtain ⟨p_,q_,ad_,e_,av⟩:=a2_ (Kd.at_int (gC_ s0 (Kd.int .i64) am ab) aa);have ix547:=ix1_ Tryz.underlying33 e_ p_ q_ (c:=an);clear e_;obtain ⟨p_,q_,ad_,e_,aw⟩:=a2_ (Kd.at_int (gC_ s0 (Kd.int .i64) am ab) aa);have ix548:=ix1_ Tryz.underlying33 e_ p_ q_ (c:=an);clear e_;refine rg_ st [] ?_;clear st cl;intro w_ st hs;have cl:=cl_ st;refine with_tabW spec_PlaceText.tab9 spec_PlaceText.bits9 (fun HT_ HW_=>?_);refine pv_ 0 ?_;refine pv_ 1 ?_;refine pv_ 3 ?_;refine pv_ 6 ?_;refine pv_ 8 ?_;refine tu_ 2 ?_ (hy:=by intro w' s_;have cl:=cl_ s_;have y547_0:=cb_ s_ av;have y548_0:=cb_ s_ aw;go_simp;first|with_reducible rfl|(rw [if_neg (by omega)];done));refine tu_ 7 ?_ (hy:=by intro w' s_;have cl:=cl_ s_;have y547_0:=cb_ s_ av;have y548_0:=cb_ s_ aw;go_simp;first|with_reducible rfl|(rw [if_neg (by omega)];done));refine pv_ 4 ?_;refine pv_ 9 ?_;refine tu_ 5 ?_ (hy:=by intro w' s_;have cl:=cl_ s_;have y547_0:=cb_ s_ av;have y548_0:=cb_ s_ aw;go_simp;first|with_reducible rfl|(rw [if_neg (by omega)];done));refine tu_ 10 ?_ (hy:=by intro w' s_;have cl:=cl_ s_;have y547_0:=cb_ s_ av;have y548_0:=cb_ s_ aw;go_simp;first|with_reducible rfl|(rw [if_neg (by omega)];done));refine pv_ 11 ?_;refine pv_ 12 ?_;refine pv_ 13 ?_;refine pv_ 14 ?_;refine done_ (done_of HT_.out (by kernel_rfl)) ?_;all_goals (try go_wp2)))
      go_roundg k1
      case measure=>have:=HK1.out;omega
      case rel=>exact ⟨(ai++((⟨#[97,98,99]⟩:ByteArray).extract ((rd ab aa):Int).toNat ((wrap64 ((rd ab aa)+1)):Int).toNat)),(wrap64 (aa+1)),tx_,tx_,H',⟨by have:=HK1.out;omega⟩,st.en⟩
    ·
     obtain ⟨af,A_33,H⟩:=bnd_ H;replace H:=i0_ H;obtain ⟨c15,H⟩:=H;have bh:=eq_true c15;have bi:decide (af.size+1≤9223372036854775807)=true:=decide_eq_true c15;(try have bj:(9223372036854775807<af.size+1)=False:=eq_false (Nat.not_lt.2 c15));obtain ⟨ah,A_37,H⟩:=bnd_ H;replace H:=i0_ H;obtain ⟨c16,H⟩:=H;have bk:=eq_true c16;have bl:decide ((af++(⟨#[32]⟩:ByteArray)).size+ah.size≤9223372036854775807)=true:=decide_eq_true c16;(try have bm:(9223372036854775807<(af++(⟨#[32]⟩:ByteArray)).size+ah.size)=False:=eq_false (Nat.not_lt.2 c16));(try have bn:(9223372036854775807<af.size+1+ah.size)=False:=eq_false (by have h:=c16;simp only [ByteArray.size_append] at h;simp only [ByteArray.size] at h ⊢;simp at h ⊢;omega));replace H:=i0_ H;obtain ⟨c17,H⟩:=H;have bo:=eq_true c17;have bp:decide (((af++(⟨#[32]⟩:ByteArray))++ah).size+1≤9223372036854775807)=true:=decide_eq_true c17;(try have bq:(9223372036854775807<((af++(⟨#[32]⟩:ByteArray))++ah).size+1)=False:=eq_false (Nat.not_lt.2 c17));(try have br:(9223372036854775807<af.size+1+ah.size+1)=False:=eq_false (by have h:=c17;simp only [ByteArray.size_append] at h;simp only [ByteArray.size] at h ⊢;simp at h ⊢;omega));replace H:=i0_ H;obtain ⟨c18,H⟩:=H;have bs:=eq_true c18;have bu:decide ((((af++(⟨#[32]⟩:ByteArray))++ah)++(⟨#[32]⟩:ByteArray)).size+ai.size≤9223372036854775807)=true:=decide_eq_true c18;(try have bv:(9223372036854775807<(((af++(⟨#[32]⟩:ByteArray))++ah)++(⟨#[32]⟩:ByteArray)).size+ai.size)=False:=eq_false (Nat.not_lt.2 c18));(try have bw:(9223372036854775807<af.size+1+ah.size+1+ai.size)=False:=eq_false (by have h:=c18;simp only [ByteArray.size_append] at h;simp only [ByteArray.size] at h ⊢;simp at h ⊢;omega));obtain rfl:=Option.some.inj H;(try go_wp2);(all_goals (refine rg_ st [] ?_;clear st cl;intro w_ st hs;have cl:=cl_ st;refine with_tabW spec_PlaceText.tab10 spec_PlaceText.bits10 (fun HT_ HW_=>?_);refine pv_ 0 ?_;refine pv_ 4 ?_;refine pv_ 9 ?_;refine tu_ 1 ?_;refine tu_ 5 ?_;refine ov_ 2 (fun K hK=>?_);refine ca2_ (some 33) Tryz.func95 _ (spec_l15Row.calls k1 ay az _ _ _ (gt_ st) (gt_ st) A_33.out) ?_;rintro e w_ ⟨rfl,hb⟩;refine ⟨_,rfl,?_⟩;replace st:=st.ev hb;clear cl hb;have cl:=cl_ st;refine hK.out _ _ st.en (fun hs=>?_);clear hK K;refine nr_ 33 ?_;refine pv_ 3 ?_;refine ov_ 6 (fun K hK=>?_);refine ca2_ (some 37) Tryz.func96 _ (spec_l15Step.calls k1 _ _ _ A_37.out) ?_;rintro e w_ ⟨rfl,hb⟩;refine ⟨_,rfl,?_⟩;replace st:=st.ev hb;clear cl hb;have cl:=cl_ st;refine hK.out _ _ st.en (fun hs=>?_);clear hK K;refine nr_ 37 ?_;refine pv_ 7 ?_;refine pv_ 8 ?_;refine pv_ 10 ?_;refine pv_ 11 ?_;refine done_ (done_of HT_.out (by kernel_rfl)) ?_;all_goals (try go_wp2)));go_ret;exact ⟨tw_,st.b⟩
 ·
  replace H:=bf_ H;obtain rfl:=Option.some.inj H;go_wp2_with (first|((with_reducible refine gate_dst (N:=1) rfl ?_);refine al_ st ?_;clear st cl;intro g1 w_ st;have cl:=cl_ st)|((with_reducible refine gate_callee (f:=94) rfl ?_);refine ca_ (some 6) Tryz.func94 _ (spec_PlaceOk.calls k ay az _ _ am an _ _ _ (gt_ st) (gt_ st) (gt_ st) (gt_ st) A_6.out) ?_;rintro e w_ ⟨rfl,hb⟩;refine ⟨_,rfl,?_⟩;replace st:=st.ev hb;clear cl hb;have cl:=cl_ st));go_ret;exact ⟨tw_,st.b⟩
def spec_l1Cut.l0:Nat→ByteArray→Int→List ByteArray→Int→Int→Option (List ByteArray)
 |0,_,_,_,_,_=>none
 |k+1,x0,x1,x5,x6,x7=>if x7<(x0.size:Int) then (if 0≤x7 then (if (bt x0 x7)=x1 then (if 0≤x6 then (if x6≤x7 then (if x7≤(x0.size:Int) then (if x5.length<8796093022208 then (spec_l1Cut.l0 k x0 x1 (x5++[x0.extract (x6:Int).toNat (x7:Int).toNat]) (wrap64 (x7+1)) (wrap64 (x7+1))) else (none)) else (none)) else (none)) else (none)) else (spec_l1Cut.l0 k x0 x1 x5 x6 (wrap64 (x7+1)))) else (none)) else (if 0≤x6 then (if x6≤(x0.size:Int) then (if x5.length<8796093022208 then (some (x5++[x0.extract (x6:Int).toNat x0.size])) else (none)) else (none)) else (none))
def spec_l1Cut.f (k:Nat) (a0:ByteArray) (a1:Int):Option (List ByteArray):=spec_l1Cut.l0 k a0 a1 (([]:List ByteArray)) 0 0
theorem spec_l1Cut.z0 {P_:Prop} (h_:P_:=by go_wp2_with (first|((with_reducible refine gate_dst (N:=26) rfl ?_);refine ap_ aE aj (a0.extract (ag:Int).toNat (ae:Int).toNat) [.string (a0.extract (ag:Int).toNat (ae:Int).toNat)] ((.string ⟨#[]⟩)) 16 st Tryz.underlying93 ?_ (hl:=by have:=a4.out;omega);clear st cl;intro P26 q26 w_ st;have cl:=cl_ st)|((with_reducible refine gate_dst (N:=34) rfl ?_);refine ap_ aE aj (a0.extract (ag:Int).toNat a0.size) [.string (a0.extract (ag:Int).toNat a0.size)] ((.string ⟨#[]⟩)) 16 st Tryz.underlying93 ?_ (hl:=by have:=a5.out;omega);clear st cl;intro P34 q34 w_ st;have cl:=cl_ st));first|(go_roundg k1;(case measure=>have:=HK1.out;omega);(case rel=>exact ⟨((aj++[a0.extract (ag:Int).toNat (ae:Int).toNat])),(wrap64 (ae+1)),(wrap64 (ae+1)),P26,q26,tx_,tx_,tx_,H',⟨by have:=HK1.out;omega⟩,st.en⟩))|(go_roundg k1;(case measure=>have:=HK1.out;omega);(case rel=>exact ⟨(aj),(ag),(wrap64 (ae+1)),aE,aO,tx_,tx_,tx_,H',⟨by have:=HK1.out;omega⟩,st.en⟩))|(go_ret;exact ⟨.slice P34 (aj++[a0.extract (ag:Int).toNat a0.size]).length q34,tw_,gtl_ st,st.b⟩)):P_:=h_
theorem spec_l1Cut.calls (k:Nat) (a0:ByteArray) (a1:Int) (r:List ByteArray) (w:World) (h:spec_l1Cut.f k a0 a1=some r) :
  Calls Tryz.prog 105 #[.string a0,.int .u8 a1] w fun e w'=>∃v0_:Value,e=.returned (v0_)∧Kd.R Kd.string 9 w' w.heap.size (fun _=>True) v0_ r∧Below w.heap.size w w':=by
 have st:=ST.nil w;have s0:=st;have cl:=cl_ st;have H:=h;clear h;unfold spec_l1Cut.f at H;go_enter Tryz.func105,Tryz.ntmps105;have H':=A_ H;clear H;go_wp2_with (first|((with_reducible refine gate_dst (N:=8) rfl ?_);refine nwl_ Kd.string 9 (([]:List ByteArray):List ByteArray) [] st ?_;clear st cl;intro B8_0 d8_0 w_ st;have cl:=cl_ st))
 go_loopg [5,6,7] k (fun kq v5 v6 v7 w'=>∃(aj:List ByteArray) (ag:Int) (ae:Int) (aE:Option Addr) (aO:Nat),v5=.slice aE aj.length aO∧v6=.int .i64 ag∧v7=.int .i64 ae∧Aside0 (spec_l1Cut.l0 kq a0 a1 aj ag ae=some r)∧Aside0 (kq≤k)∧ST w [] [AR Kd.string 9 w.heap.size (.slice aE aj.length aO) aj] w')
 case atStart=>exact ⟨(([]:List ByteArray)),(0),(0),B8_0,d8_0,tx_,tx_,tx_,H',⟨Nat.le_refl _⟩,st.en⟩
 case round =>
  clear H' st cl;obtain ⟨aj,ag,ae,aE,aO,rfl,rfl,rfl,HA,HK1,st⟩:=hrel;have cl:=cl_ st
  cases gk with
  |zero=>exact absurd HA.out (by simp [spec_l1Cut.l0])
  |succ k1 =>
   have H:=HA.out;clear HA;simp only [spec_l1Cut.l0] at H;replace H:=it_ H;rcases H with ⟨aG,H⟩|⟨aG,H⟩
   ·
    replace H:=in_ H;obtain ⟨aq,H⟩:=H;have y6a:(0≤(ae:Int))=True:=eq_true (by first|exact od_|omega);have y6b:((ae:Int)<(a0.size:Int))=True:=eq_true (by first|exact od_|omega);have y6x:=bt_at a0 ae;by_cases c7:(bt a0 ae)=a1
    ·
     rw [if_pos c7] at H;have aM:((bt a0 ae) == a1)=true:=beq_iff_eq.mpr c7;have aN:((bt a0 ae) != a1)=false:=bne_eq_false_iff_eq.mpr c7;clear c7;replace H:=i0_ H;obtain ⟨c8,H⟩:=H;have a8:=eq_true c8;have a9:decide (0≤ag)=true:=decide_eq_true c8;clear c8;replace H:=i0_ H;obtain ⟨c9,H⟩:=H;have aW:=eq_true c9;have bb:decide (ag≤ae)=true:=decide_eq_true c9;clear c9;replace H:=i0_ H;obtain ⟨c10,H⟩:=H;have aH:=eq_true c10;have a6:decide (ae≤(a0.size:Int))=true:=decide_eq_true c10;clear c10;replace H:=il_ H;obtain ⟨a4,H⟩:=H;have H':=A_ H;clear H;exact spec_l1Cut.z0
    ·
     rw [if_neg c7] at H;have aM:((bt a0 ae) == a1)=false:=beq_eq_false_iff_ne.mpr c7;have aN:((bt a0 ae) != a1)=true:=bne_iff_ne.mpr c7;have H':=A_ H;clear H;exact spec_l1Cut.z0
   ·
    replace H:=i0_ H;obtain ⟨c12,H⟩:=H;have aI:=eq_true c12;have aZ:decide (0≤ag)=true:=decide_eq_true c12;clear c12;replace H:=i0_ H;obtain ⟨c13,H⟩:=H;have aJ:=eq_true c13;have a3:decide (ag≤(a0.size:Int))=true:=decide_eq_true c13;clear c13;replace H:=il_ H;obtain ⟨a5,H⟩:=H;obtain rfl:=Option.some.inj H;exact spec_l1Cut.z0
mutual
def spec_l1Digits.j0:Nat→ByteArray→Bool→Option (Int)
 |0,_,_=>none
 |k+1,x0,x18=>if x18=true then (some (-1)) else (spec_l1Digits.l0 k x0 0 0)
def spec_l1Digits.l0:Nat→ByteArray→Int→Int→Option (Int)
 |0,_,_,_=>none
 |k+1,x0,x3,x4=>if x4<(x0.size:Int) then (if 0≤x4 then (if (bt x0 x4)<48 then (some (-1)) else (if (bt x0 x4)>57 then (some (-1)) else (spec_l1Digits.l0 k x0 (wrap64 ((wrap64 (10*x3))+(((bt x0 x4) - 48) % 256))) (wrap64 (x4+1))))) else (none)) else (some x3)
end
def spec_l1Digits.f (k:Nat) (a0:ByteArray):Option (Int):=(spec_l1In.f (a0.size:Int) 1 6).bind fun aK=>(if aK=true then (if (a0.size:Int)>1 then (if 0<(a0.size:Int) then (spec_l1Digits.j0 k a0 ((bt a0 0) == 48)) else (none)) else (spec_l1Digits.j0 k a0 false)) else (spec_l1Digits.j0 k a0 true))
theorem spec_l1Digits.mono_l:∀k,(∀y0 y1,LeO (spec_l1Digits.j0 k y0 y1) (spec_l1Digits.j0 (k+1) y0 y1))∧(∀y0 y1 y2,LeO (spec_l1Digits.l0 k y0 y1 y2) (spec_l1Digits.l0 (k+1) y0 y1 y2))
 |0=>⟨fun _ _ r h=>by simp [spec_l1Digits.j0] at h,fun _ _ _ r h=>by simp [spec_l1Digits.l0] at h⟩
 |k+1=>by
  obtain ⟨ih0,ih1⟩:=spec_l1Digits.mono_l k
  refine ⟨?_,?_⟩
  ·
   intro y0 y1
   unfold spec_l1Digits.j0
   repeat' (with_reducible first|exact ih0 _ _|exact ih1 _ _ _|exact mr_|exact mn_|refine mi_ ?_ ?_|refine mb_ ?_ (fun _=>?_))
  ·
   intro y0 y1 y2
   unfold spec_l1Digits.l0
   repeat' (with_reducible first|exact ih0 _ _|exact ih1 _ _ _|exact mr_|exact mn_|refine mi_ ?_ ?_|refine mb_ ?_ (fun _=>?_))
theorem spec_l1Digits.mono:∀a0 k,LeO (spec_l1Digits.f k a0) (spec_l1Digits.f (k+1) a0):=by
 intro a0 k;obtain ⟨ih0,ih1⟩:=spec_l1Digits.mono_l k;unfold spec_l1Digits.f;repeat' (with_reducible first|exact ih0 _ _|exact ih1 _ _ _|exact mr_|exact mn_|refine mi_ ?_ ?_|refine mb_ ?_ (fun _=>?_))
theorem spec_l1Digits.calls (k:Nat) (a0:ByteArray) (r:Int) (w:World) (h:spec_l1Digits.f k a0=some r) :
  Calls Tryz.prog 107 #[.string a0] w fun e w'=>e=.returned (.int .i64 r)∧Drawn0 w w':=by
 have H:((spec_l1In.f (a0.size:Int) 1 6).bind fun aK=>(if aK=true then (if (a0.size:Int)>1 then (if 0<(a0.size:Int) then (spec_l1Digits.j0 k a0 ((bt a0 0) == 48)) else (none)) else (spec_l1Digits.j0 k a0 false)) else (spec_l1Digits.j0 k a0 true)))=some r:=h;clear h;have HC2:=A_ H;clear H;go_enter Tryz.func107,Tryz.ntmps107
 go_upto_region 1 with (fail)
 go_cut [18] (fun bD wc=>∃(kq:Nat) (aA:Bool),bD=.bool aA∧Aside0 (spec_l1Digits.j0 kq a0 aA=some r)∧Aside0 (kq≤k)∧Drawn0 w wc)
 case first =>
  have H:=HC2.out;clear HC2;obtain ⟨aK,A3,H⟩:=bnd_ H;(try dsimp only at H);by_cases c4:aK=true
  ·
   subst c4;replace H:(if (a0.size:Int)>1 then (if 0<(a0.size:Int) then (spec_l1Digits.j0 k a0 ((bt a0 0) == 48)) else (none)) else (spec_l1Digits.j0 k a0 false))=some r:=by rw [if_pos rfl] at H;exact H
   by_cases c5:(a0.size:Int)>1
   ·
    rw [if_pos c5] at H;have aq:decide (1<(a0.size:Int))=true:=decide_eq_true c5;have aX:decide (1<a0.size)=true:=decide_eq_true (by omega);clear c5;(first|rw [aq]|(simp only [i64_w,i32_w];rw [aq])|skip);replace H:=i0_ H;obtain ⟨c6,H⟩:=H;have aC:decide (0<(a0.size:Int))=true:=decide_eq_true c6;have aD:decide (0<a0.size)=true:=decide_eq_true (by omega);clear c6;have H':=A_ H;clear H;go_wp2_with (first|((with_reducible refine gate_callee (f:=69) rfl ?_);refine gl_ (some 7) Tryz.func69 #[.int .i64 (a0.size:Int),.int .i64 1,.int .i64 6] ?_;(with_reducible refine (spec_l1In.calls (a0.size:Int) 1 6 true _ A3.out).mono ?_);rintro e w' ⟨rfl,⟨nd,rfl⟩⟩;refine ⟨_,rfl,?_⟩;have p7:0≤(0:Int):=(by omega);have q7:0<a0.size:=(by have:(0:Int)<(a0.size:Int):=od_;omega);have hx7:∀h:0<a0.size,((a0[0]'h).toNat:Int)=bt a0 0:=bt_at a0 0;clear p7;have bx:(0<(a0.size:Int))=True:=eq_true (od_);replace q7:=eq_true q7));go_meet
    case rel=>exact ⟨_,(((bt a0 0) == 48)),tx_,H',⟨by first|omega|exact Nat.le_refl _⟩,dz_⟩
   ·
    rw [if_neg c5] at H;have aq:decide (1<(a0.size:Int))=false:=decide_eq_false c5;have aX:decide (1<a0.size)=false:=decide_eq_false (by omega);clear c5;(first|rw [aq]|(simp only [i64_w,i32_w];rw [aq])|skip);have H':=A_ H;clear H;go_wp2_with (first|((with_reducible refine gate_callee (f:=69) rfl ?_);refine gl_ (some 7) Tryz.func69 #[.int .i64 (a0.size:Int),.int .i64 1,.int .i64 6] ?_;(with_reducible refine (spec_l1In.calls (a0.size:Int) 1 6 true _ A3.out).mono ?_);rintro e w' ⟨rfl,⟨nd,rfl⟩⟩;refine ⟨_,rfl,?_⟩));go_meet
    case rel=>exact ⟨_,(false),tx_,H',⟨by first|omega|exact Nat.le_refl _⟩,dz_⟩
  ·
   replace c4:=Bool.eq_false_iff.mpr c4;subst c4;replace H:(spec_l1Digits.j0 k a0 true)=some r:=by rw [if_neg (show ¬(false=true) by decide)] at H;exact H
   have H':=A_ H;clear H;go_wp2_with (first|((with_reducible refine gate_callee (f:=69) rfl ?_);refine gl_ (some 7) Tryz.func69 #[.int .i64 (a0.size:Int),.int .i64 1,.int .i64 6] ?_;(with_reducible refine (spec_l1In.calls (a0.size:Int) 1 6 false _ A3.out).mono ?_);rintro e w' ⟨rfl,⟨nd,rfl⟩⟩;refine ⟨_,rfl,?_⟩));go_meet
   case rel=>exact ⟨_,(true),tx_,H',⟨by first|omega|exact Nat.le_refl _⟩,dz_⟩
 case rest =>
  clear HC2;obtain ⟨kq,aA,rfl,HA,HJ1,⟨mc1,rfl⟩⟩:=hcut
  cases kq with
  |zero=>exact absurd HA.out (by simp [spec_l1Digits.j0])
  |succ kj1 =>
   have H:=HA.out;clear HA;simp only [spec_l1Digits.j0] at H;by_cases c8:aA=true
   ·
    subst c8;replace H:(some (-1))=some r:=by rw [if_pos rfl] at H;exact H
    obtain rfl:=Option.some.inj H;go_wp2;go_ret;exact ⟨tx_,dz_⟩
   ·
    replace c8:=Bool.eq_false_iff.mpr c8;subst c8;replace H:(spec_l1Digits.l0 kj1 a0 0 0)=some r:=by rw [if_neg (show ¬(false=true) by decide)] at H;exact H
    have H':=A_ H;clear H;go_wp2
    go_loopg [3,4] kj1 (fun kq v3 v4 w'=>∃(aP:Int) (ad:Int),v3=.int .i64 aP∧v4=.int .i64 ad∧Aside0 (spec_l1Digits.l0 kq a0 aP ad=some r)∧Aside0 (kq≤kj1)∧Drawn0 w w')
    case atStart=>exact ⟨(0),(0),tx_,tx_,H',⟨Nat.le_refl _⟩,dz_⟩
    case round =>
     clear H';(try clear c8);obtain ⟨aP,ad,rfl,rfl,HA,HK2,⟨m2,rfl⟩⟩:=hrel
     cases gk with
     |zero=>exact absurd HA.out (by simp [spec_l1Digits.l0])
     |succ k2 =>
      have H:=HA.out;clear HA;simp only [spec_l1Digits.l0] at H;replace H:=it_ H;rcases H with ⟨aW,H⟩|⟨aW,H⟩
      ·
       replace H:=in_ H;obtain ⟨aH,H⟩:=H;replace H:=it_ H;rcases H with ⟨aI,H⟩|⟨aI,H⟩
       ·
        obtain rfl:=Option.some.inj H;have p11:0≤(ad:Int):=od_;have q11:ad<(a0.size:Int):=od_;have hx11:=bt_at a0 ad;replace p11:=eq_true p11;replace q11:=eq_true q11;go_wp2;go_ret;exact ⟨tx_,dz_⟩
       ·
        replace H:=ig_ H;rcases H with ⟨aQ,H⟩|⟨aQ,H⟩
        ·
         obtain rfl:=Option.some.inj H;have p11:0≤(ad:Int):=od_;have q11:ad<(a0.size:Int):=od_;have hx11:=bt_at a0 ad;replace p11:=eq_true p11;replace q11:=eq_true q11;have p13:0≤(ad:Int):=od_;have q13:ad<(a0.size:Int):=od_;have hx13:=bt_at a0 ad;replace p13:=eq_true p13;replace q13:=eq_true q13;go_wp2;go_ret;exact ⟨tx_,dz_⟩
        ·
         have H':=A_ H;clear H;have p11:0≤(ad:Int):=od_;have q11:ad<(a0.size:Int):=od_;have hx11:=bt_at a0 ad;replace p11:=eq_true p11;replace q11:=eq_true q11;have p13:0≤(ad:Int):=od_;have q13:ad<(a0.size:Int):=od_;have hx13:=bt_at a0 ad;replace p13:=eq_true p13;replace q13:=eq_true q13;have p15:0≤(ad:Int):=od_;have q15:ad<(a0.size:Int):=od_;have hx15:=bt_at a0 ad;replace p15:=eq_true p15;replace q15:=eq_true q15;go_wp2
         go_roundg k2
         case measure=>have:=HJ1.out;have:=HK2.out;omega
         case rel=>exact ⟨(wrap64 ((wrap64 (10*aP))+(((bt a0 ad) - 48) % 256))),(wrap64 (ad+1)),tx_,tx_,H',⟨by have:=HJ1.out;have:=HK2.out;omega⟩,dz_⟩
      ·
       obtain rfl:=Option.some.inj H;go_wp2;go_ret;exact ⟨tx_,dz_⟩
def spec_l15Signed.j0:Nat→ByteArray→Bool→Option (Int)
 |0,_,_=>none
 |k+1,x0,x17=>if x17=true then (if 1≤(x0.size:Int) then ((spec_l1Digits.f k (x0.extract 1 x0.size)).bind fun aL=>(some (wrap64 (-aL)))) else (none)) else ((spec_l1Digits.f k x0).bind fun al=>(if al<0 then (some (-100)) else (some al)))
def spec_l15Signed.f (k:Nat) (a0:ByteArray):Option (Int):=if (a0.size:Int)>1 then (if 0<(a0.size:Int) then (if (bt a0 0)=45 then (if 1≤(a0.size:Int) then ((spec_l1Digits.f k (a0.extract 1 a0.size)).bind fun aF=>(spec_l15Signed.j0 k a0 (decide (aF>0)))) else (none)) else (spec_l15Signed.j0 k a0 false)) else (none)) else (spec_l15Signed.j0 k a0 false)
theorem spec_l15Signed.mono_l:∀k,(∀y0 y1,LeO (spec_l15Signed.j0 k y0 y1) (spec_l15Signed.j0 (k+1) y0 y1))
 |0=>fun _ _ r h=>by simp [spec_l15Signed.j0] at h
 |k+1=>by
  have ih0:=spec_l15Signed.mono_l k
  ·
   intro y0 y1
   unfold spec_l15Signed.j0
   repeat' (with_reducible first|exact ih0 _ _|exact spec_l1Digits.mono _ _|exact mr_|exact mn_|refine mi_ ?_ ?_|refine mb_ ?_ (fun _=>?_))
theorem spec_l15Signed.mono:∀a0 k,LeO (spec_l15Signed.f k a0) (spec_l15Signed.f (k+1) a0):=by
 intro a0 k;have ih0:=spec_l15Signed.mono_l k;unfold spec_l15Signed.f;repeat' (with_reducible first|exact ih0 _ _|exact spec_l1Digits.mono _ _|exact mr_|exact mn_|refine mi_ ?_ ?_|refine mb_ ?_ (fun _=>?_))
theorem spec_l15Signed.calls (k:Nat) (a0:ByteArray) (r:Int) (w:World) (h:spec_l15Signed.f k a0=some r) :
  Calls Tryz.prog 106 #[.string a0] w fun e w'=>e=.returned (.int .i64 r)∧Drawn0 w w':=by
 have H:(if (a0.size:Int)>1 then (if 0<(a0.size:Int) then (if (bt a0 0)=45 then (if 1≤(a0.size:Int) then ((spec_l1Digits.f k (a0.extract 1 a0.size)).bind fun aF=>(spec_l15Signed.j0 k a0 (decide (aF>0)))) else (none)) else (spec_l15Signed.j0 k a0 false)) else (none)) else (spec_l15Signed.j0 k a0 false))=some r:=h;clear h;have HC2:=A_ H;clear H;go_enter Tryz.func106,Tryz.ntmps106
 go_upto_region 1 with (fail)
 go_cut [17] (fun bE wc=>∃(kq:Nat) (aB:Bool),bE=.bool aB∧Aside0 (spec_l15Signed.j0 kq a0 aB=some r)∧Aside0 (kq≤k)∧Drawn0 w wc)
 case first =>
  have H:=HC2.out;clear HC2;by_cases c3:(a0.size:Int)>1
  ·
   rw [if_pos c3] at H;have ax:decide (1<(a0.size:Int))=true:=decide_eq_true c3;have a7:decide (1<a0.size)=true:=decide_eq_true (by omega);clear c3;(first|rw [ax]|(simp only [i64_w,i32_w];rw [ax])|skip);replace H:=i0_ H;obtain ⟨c4,H⟩:=H;have aG:decide (0<(a0.size:Int))=true:=decide_eq_true c4;have aV:decide (0<a0.size)=true:=decide_eq_true (by omega);clear c4;by_cases c6:(bt a0 0)=45
   ·
    rw [if_pos c6] at H;have aC:((bt a0 0) == 45)=true:=beq_iff_eq.mpr c6;have aD:((bt a0 0) != 45)=false:=bne_eq_false_iff_eq.mpr c6;clear c6;replace H:=i0_ H;obtain ⟨c7,H⟩:=H;have aM:=eq_true c7;have aN:decide (1≤(a0.size:Int))=true:=decide_eq_true c7;clear c7;obtain ⟨aF,A8,H⟩:=bnd_ H;(try dsimp only at H);have H':=A_ H;clear H;have p5:0≤(0:Int):=(by omega)
    have q5:0<a0.size:=(by have:(0:Int)<(a0.size:Int):=od_;omega)
    have hx5:∀h:0<a0.size,((a0[0]'h).toNat:Int)=bt a0 0:=bt_at a0 0;clear p5;have bz:(0<(a0.size:Int))=True:=eq_true (od_);replace q5:=eq_true q5;go_wp2_with (first|(go_at_call 107;(with_reducible refine (spec_l1Digits.calls k (a0.extract 1 a0.size) aF _ A8.out).mono ?_);rintro e w' ⟨rfl,⟨nd,rfl⟩⟩));go_meet
    case rel=>exact ⟨_,(decide (aF>0)),tx_,H',⟨by first|omega|exact Nat.le_refl _⟩,dz_⟩
   ·
    rw [if_neg c6] at H;have aC:((bt a0 0) == 45)=false:=beq_eq_false_iff_ne.mpr c6;have aD:((bt a0 0) != 45)=true:=bne_iff_ne.mpr c6;have H':=A_ H;clear H;have p5:0≤(0:Int):=(by omega)
    have q5:0<a0.size:=(by have:(0:Int)<(a0.size:Int):=od_;omega)
    have hx5:∀h:0<a0.size,((a0[0]'h).toNat:Int)=bt a0 0:=bt_at a0 0;clear p5;have bz:(0<(a0.size:Int))=True:=eq_true (od_);replace q5:=eq_true q5;go_wp2;go_meet
    case rel=>exact ⟨_,(false),tx_,H',⟨by first|omega|exact Nat.le_refl _⟩,dz_⟩
  ·
   rw [if_neg c3] at H;have ax:decide (1<(a0.size:Int))=false:=decide_eq_false c3;have a7:decide (1<a0.size)=false:=decide_eq_false (by omega);clear c3;(first|rw [ax]|(simp only [i64_w,i32_w];rw [ax])|skip);have H':=A_ H;clear H;go_wp2;go_meet
   case rel=>exact ⟨_,(false),tx_,H',⟨by first|omega|exact Nat.le_refl _⟩,dz_⟩
 case rest =>
  clear HC2;obtain ⟨kq,aB,rfl,HA,HJ1,⟨mc1,rfl⟩⟩:=hcut
  cases kq with
  |zero=>exact absurd HA.out (by simp [spec_l15Signed.j0])
  |succ kj1 =>
   have H:=HA.out;clear HA;simp only [spec_l15Signed.j0] at H;by_cases c9:aB=true
   ·
    subst c9;replace H:(if 1≤(a0.size:Int) then ((spec_l1Digits.f kj1 (a0.extract 1 a0.size)).bind fun aL=>(some (wrap64 (-aL)))) else (none))=some r:=by rw [if_pos rfl] at H;exact H
    replace H:=i0_ H;obtain ⟨c10,H⟩:=H;have aH:=eq_true c10;have a6:decide (1≤(a0.size:Int))=true:=decide_eq_true c10;clear c10;obtain ⟨aL,A11,H⟩:=bnd_ H;(try dsimp only at H);obtain rfl:=Option.some.inj H;go_wp2_with (first|((with_reducible refine gate_callee (f:=107) rfl ?_);refine gl_ (some 20) Tryz.func107 #[.string (a0.extract 1 a0.size)] ?_;(with_reducible refine (spec_l1Digits.calls kj1 (a0.extract 1 a0.size) aL _ A11.out).mono ?_);rintro e w' ⟨rfl,⟨nd,rfl⟩⟩;refine ⟨_,rfl,?_⟩));go_ret;exact ⟨tx_,dz_⟩
   ·
    replace c9:=Bool.eq_false_iff.mpr c9;subst c9;replace H:((spec_l1Digits.f kj1 a0).bind fun al=>(if al<0 then (some (-100)) else (some al)))=some r:=by rw [if_neg (show ¬(false=true) by decide)] at H;exact H
    obtain ⟨al,A12,H⟩:=bnd_ H;(try dsimp only at H);replace H:=it_ H;rcases H with ⟨aJ,H⟩|⟨aJ,H⟩
    ·
     obtain rfl:=Option.some.inj H;go_wp2_with (first|((with_reducible refine gate_callee (f:=107) rfl ?_);refine gl_ (some 23) Tryz.func107 #[.string a0] ?_;(with_reducible refine (spec_l1Digits.calls kj1 a0 al _ A12.out).mono ?_);rintro e w' ⟨rfl,⟨nd,rfl⟩⟩;refine ⟨_,rfl,?_⟩));go_ret;exact ⟨tx_,dz_⟩
    ·
     obtain rfl:=Option.some.inj H;go_wp2_with (first|((with_reducible refine gate_callee (f:=107) rfl ?_);refine gl_ (some 23) Tryz.func107 #[.string a0] ?_;(with_reducible refine (spec_l1Digits.calls kj1 a0 al _ A12.out).mono ?_);rintro e w' ⟨rfl,⟨nd,rfl⟩⟩;refine ⟨_,rfl,?_⟩));go_ret;exact ⟨tx_,dz_⟩
end Go.Proofs.YtopboabeigakoaaGreatDoor.MFnStoreOpen
