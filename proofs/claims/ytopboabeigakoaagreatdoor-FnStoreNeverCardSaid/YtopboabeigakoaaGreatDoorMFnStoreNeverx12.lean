/- For the law FnStoreNever: walks of the functions that it reaches: each call returns what the plain function beside it tells. The conditions stand in each statement. -/
import Derived.Test.YtopboabeigakoaaGreatDoorV
import Derived.Test.YtopboabeigakoaaGreatDoorMFnStoreNeverx0
import Derived.Test.YtopboabeigakoaaGreatDoorMFnStoreNeverx8
import Derived.Test.YtopboabeigakoaaGreatDoorMFnStoreNeverx11
namespace Go.Proofs.YtopboabeigakoaaGreatDoor.MFnStoreNever
open Go.RowKit Go.Proofs.YtopboabeigakoaaGreatDoorW.PrintWords Go.Proofs.YtopboabeigakoaaGreatDoorW.PrintLast Go.Proofs.YtopboabeigakoaaGreatDoorW.PrintMore
attribute [local go_sem] max2_int min2_int max_two min_two max_three min_three max_four min_four   -- for this text's walks alone
set_option linter.unusedVariables false
set_option linter.unusedSimpArgs false
set_option maxHeartbeats 8000000
set_option maxRecDepth 100000
def spec_l15Signed.j0:Nat→ByteArray→Bool→Option (Int)
 |0,_,_=>none
 |k+1,x0,x17=>if x17=true then (if 1≤(x0.size:Int) then ((spec_l1Digits.f k (x0.extract 1 x0.size)).bind fun ax=>(some (wrap64 (-ax)))) else (none)) else ((spec_l1Digits.f k x0).bind fun al=>(if al<0 then (some (-100)) else (some al)))
def spec_l15Signed.f (k:Nat) (a0:ByteArray):Option (Int):=if (a0.size:Int)>1 then (if 0<(a0.size:Int) then (if (bt a0 0)=45 then (if 1≤(a0.size:Int) then ((spec_l1Digits.f k (a0.extract 1 a0.size)).bind fun au=>(spec_l15Signed.j0 k a0 (decide (au>0)))) else (none)) else (spec_l15Signed.j0 k a0 false)) else (none)) else (spec_l15Signed.j0 k a0 false)
theorem spec_l15Signed.mono_l:∀k,(∀y0 y1,LeO (spec_l15Signed.j0 k y0 y1) (spec_l15Signed.j0 (k+1) y0 y1))
 |0=>fun _ _ r h=>by simp [spec_l15Signed.j0] at h
 |k+1=>by
  have ih0:=spec_l15Signed.mono_l k
  ·
   intro y0 y1
   unfold spec_l15Signed.j0
   repeat' (with_reducible first|exact ih0 _ _|exact spec_l1Digits.mono _ _|exact mr_|exact mn_|refine mi_ ?_ ?_|refine mb_ ?_ (fun _=>?_))
theorem spec_l15Signed.mono:∀a0 k,LeO (spec_l15Signed.f k a0) (spec_l15Signed.f (k+1) a0):=by
 intro a0 k;have ih0:=spec_l15Signed.mono_l k;unfold spec_l15Signed.f;repeat' (with_reducible first|exact ih0 _ _|exact spec_l1Digits.mono _ _|exact mr_|exact mn_|refine mi_ ?_ ?_|refine mb_ ?_ (fun _=>?_))
theorem spec_l15Signed.calls (k:Nat) (a0:ByteArray) (r:Int) (w:World) (h:spec_l15Signed.f k a0=some r) :
  Calls Tryz.prog 106 #[.string a0] w fun e w'=>e=.returned (.int .i64 r)∧Drawn0 w w':=by
 have H:(if (a0.size:Int)>1 then (if 0<(a0.size:Int) then (if (bt a0 0)=45 then (if 1≤(a0.size:Int) then ((spec_l1Digits.f k (a0.extract 1 a0.size)).bind fun au=>(spec_l15Signed.j0 k a0 (decide (au>0)))) else (none)) else (spec_l15Signed.j0 k a0 false)) else (none)) else (spec_l15Signed.j0 k a0 false))=some r:=h;clear h;have HC2:=A_ H;clear H;go_enter Tryz.func106,Tryz.ntmps106
 go_upto_region 1 with (fail)
 go_cut [17] (fun a6 wc=>∃(kq:Nat) (ar:Bool),a6=.bool ar∧Aside0 (spec_l15Signed.j0 kq a0 ar=some r)∧Aside0 (kq≤k)∧Drawn0 w wc)
 case first =>
  have H:=HC2.out;clear HC2;by_cases c3:(a0.size:Int)>1
  ·
   rw [if_pos c3] at H;have ao:decide (1<(a0.size:Int))=true:=decide_eq_true c3;have aA:decide (1<a0.size)=true:=decide_eq_true (by omega);clear c3;(first|rw [ao]|(simp only [i64_w,i32_w];rw [ao])|skip);replace H:=i0_ H;obtain ⟨c4,H⟩:=H;have aD:decide (0<(a0.size:Int))=true:=decide_eq_true c4;have aE:decide (0<a0.size)=true:=decide_eq_true (by omega);clear c4;by_cases c6:(bt a0 0)=45
   ·
    rw [if_pos c6] at H;have az:((bt a0 0) == 45)=true:=beq_iff_eq.mpr c6;have aF:((bt a0 0) != 45)=false:=bne_eq_false_iff_eq.mpr c6;clear c6;replace H:=i0_ H;obtain ⟨c7,H⟩:=H;have aG:=eq_true c7;have aY:decide (1≤(a0.size:Int))=true:=decide_eq_true c7;clear c7;obtain ⟨au,A8,H⟩:=bnd_ H;(try dsimp only at H);have H':=A_ H;clear H;have p5:0≤(0:Int):=(by omega)
    have q5:0<a0.size:=(by have:(0:Int)<(a0.size:Int):=od_;omega)
    have hx5:∀h:0<a0.size,((a0[0]'h).toNat:Int)=bt a0 0:=bt_at a0 0;clear p5;have a4:(0<(a0.size:Int))=True:=eq_true (od_);replace q5:=eq_true q5;go_wp2_with (first|(go_at_call 107;(with_reducible refine (spec_l1Digits.calls k (a0.extract 1 a0.size) au _ A8.out).mono ?_);rintro e w' ⟨rfl,⟨nd,rfl⟩⟩));go_meet
    case rel=>exact ⟨_,(decide (au>0)),tx_,H',⟨by first|omega|exact Nat.le_refl _⟩,dz_⟩
   ·
    rw [if_neg c6] at H;have az:((bt a0 0) == 45)=false:=beq_eq_false_iff_ne.mpr c6;have aF:((bt a0 0) != 45)=true:=bne_iff_ne.mpr c6;have H':=A_ H;clear H;have p5:0≤(0:Int):=(by omega)
    have q5:0<a0.size:=(by have:(0:Int)<(a0.size:Int):=od_;omega)
    have hx5:∀h:0<a0.size,((a0[0]'h).toNat:Int)=bt a0 0:=bt_at a0 0;clear p5;have a4:(0<(a0.size:Int))=True:=eq_true (od_);replace q5:=eq_true q5;go_wp2;go_meet
    case rel=>exact ⟨_,(false),tx_,H',⟨by first|omega|exact Nat.le_refl _⟩,dz_⟩
  ·
   rw [if_neg c3] at H;have ao:decide (1<(a0.size:Int))=false:=decide_eq_false c3;have aA:decide (1<a0.size)=false:=decide_eq_false (by omega);clear c3;(first|rw [ao]|(simp only [i64_w,i32_w];rw [ao])|skip);have H':=A_ H;clear H;go_wp2;go_meet
   case rel=>exact ⟨_,(false),tx_,H',⟨by first|omega|exact Nat.le_refl _⟩,dz_⟩
 case rest =>
  clear HC2;obtain ⟨kq,ar,rfl,HA,HJ1,⟨mc1,rfl⟩⟩:=hcut
  cases kq with
  |zero=>exact absurd HA.out (by simp [spec_l15Signed.j0])
  |succ kj1 =>
   have H:=HA.out;clear HA;simp only [spec_l15Signed.j0] at H;by_cases c9:ar=true
   ·
    subst c9;replace H:(if 1≤(a0.size:Int) then ((spec_l1Digits.f kj1 (a0.extract 1 a0.size)).bind fun ax=>(some (wrap64 (-ax)))) else (none))=some r:=by rw [if_pos rfl] at H;exact H
    replace H:=i0_ H;obtain ⟨c10,H⟩:=H;have aH:=eq_true c10;have aI:decide (1≤(a0.size:Int))=true:=decide_eq_true c10;clear c10;obtain ⟨ax,A11,H⟩:=bnd_ H;(try dsimp only at H);obtain rfl:=Option.some.inj H;go_wp2_with (first|((with_reducible refine gate_callee (f:=107) rfl ?_);refine gl_ (some 20) Tryz.func107 #[.string (a0.extract 1 a0.size)] ?_;(with_reducible refine (spec_l1Digits.calls kj1 (a0.extract 1 a0.size) ax _ A11.out).mono ?_);rintro e w' ⟨rfl,⟨nd,rfl⟩⟩;refine ⟨_,rfl,?_⟩));go_ret;exact ⟨tx_,dz_⟩
   ·
    replace c9:=Bool.eq_false_iff.mpr c9;subst c9;replace H:((spec_l1Digits.f kj1 a0).bind fun al=>(if al<0 then (some (-100)) else (some al)))=some r:=by rw [if_neg (show ¬(false=true) by decide)] at H;exact H
    obtain ⟨al,A12,H⟩:=bnd_ H;(try dsimp only at H);replace H:=it_ H;rcases H with ⟨ay,H⟩|⟨ay,H⟩
    ·
     obtain rfl:=Option.some.inj H;go_wp2_with (first|((with_reducible refine gate_callee (f:=107) rfl ?_);refine gl_ (some 23) Tryz.func107 #[.string a0] ?_;(with_reducible refine (spec_l1Digits.calls kj1 a0 al _ A12.out).mono ?_);rintro e w' ⟨rfl,⟨nd,rfl⟩⟩;refine ⟨_,rfl,?_⟩));go_ret;exact ⟨tx_,dz_⟩
    ·
     obtain rfl:=Option.some.inj H;go_wp2_with (first|((with_reducible refine gate_callee (f:=107) rfl ?_);refine gl_ (some 23) Tryz.func107 #[.string a0] ?_;(with_reducible refine (spec_l1Digits.calls kj1 a0 al _ A12.out).mono ?_);rintro e w' ⟨rfl,⟨nd,rfl⟩⟩;refine ⟨_,rfl,?_⟩));go_ret;exact ⟨tx_,dz_⟩
mutual
def spec_ReadPlace.l0:Nat→ByteArray→List ByteArray→List ByteArray→Int→List Int→Int→Option (List Int×Int×List Int×Bool)
 |0,_,_,_,_,_,_=>none
 |k+1,x0,x4,x6,x7,ag,ai=>if x7<(x6.length:Int) then (if 0≤x7 then ((spec_l1Digits.f k (rdOf ByteArray.empty x6 x7)).bind fun av=>(if ag.length<17592186044416 then (spec_ReadPlace.l0 k x0 x4 x6 (wrap64 (x7+1)) (ag++[av]) ai) else (none))) else (none)) else (spec_ReadPlace.l1 k x0 x4 0 ag ai ([]:List Int))
def spec_ReadPlace.l1:Nat→ByteArray→List ByteArray→Int→List Int→Int→List Int→Option (List Int×Int×List Int×Bool)
 |0,_,_,_,_,_,_=>none
 |k+1,x0,x4,x8,ag,ai,aj=>if 2<(x4.length:Int) then (if x8<((rdOf ByteArray.empty x4 2).size:Int) then (if (rdOf ByteArray.empty x4 2).toList=([46]:List UInt8) then (if x0.toList=([]:List UInt8) then (some (([]:List Int),0,([]:List Int),false)) else ((spec_PlaceText.f k ag ai aj).bind fun ap=>(if ap.toList=x0.toList then (some (ag,ai,aj,true)) else (some (([]:List Int),0,([]:List Int),false))))) else (if 0≤x8 then (if aj.length<17592186044416 then (spec_ReadPlace.l1 k x0 x4 (wrap64 (x8+1)) ag ai (aj++[wrap64 ((wrap64 (bt (rdOf ByteArray.empty x4 2) x8)) - 97)])) else (none)) else (none))) else (if x0.toList=([]:List UInt8) then (some (([]:List Int),0,([]:List Int),false)) else ((spec_PlaceText.f k ag ai aj).bind fun aq=>(if aq.toList=x0.toList then (some (ag,ai,aj,true)) else (some (([]:List Int),0,([]:List Int),false)))))) else (none)
end
def spec_ReadPlace.f (k:Nat) (a0:ByteArray):Option (List Int×Int×List Int×Bool):=(spec_l1Cut.f k a0 32).bind fun ab=>(if (ab.length:Int)=3 then (if 1<(ab.length:Int) then ((spec_l15Signed.f k (rdOf ByteArray.empty ab 1)).bind fun aw=>(if 0<(ab.length:Int) then ((spec_l1Cut.f k (rdOf ByteArray.empty ab 0) 44).bind fun an=>(spec_ReadPlace.l0 k a0 ab an 0 ([]:List Int) aw)) else (none))) else (none)) else (some (([]:List Int),0,([]:List Int),false)))
def spec_ReadPlace.T9:Bool×List (List Nat×List Nat):=(true,[([],[]),([0],[0]),([],[]),([],[]),([2,3],[2,3]),([4],[4]),([5],[5]),([6],[6]),([1,7,6],[1,7]),([0,1,2,3,4,5,6,7,8],[]),([9,8,8,0,1,2,3,4,5,6,7,8],[8,9])])
def spec_ReadPlace.B9:List Nat:=[0,1,0,0,12,28,60,124,255,511,1023]
theorem spec_ReadPlace.tab9:rtab .any (opsOf Tryz.f67 9)=spec_ReadPlace.T9:=by kernel_rfl
theorem spec_ReadPlace.bits9:waitsOk spec_ReadPlace.T9.2 spec_ReadPlace.B9=true:=by kernel_rfl
def spec_ReadPlace.T13:Bool×List (List Nat×List Nat):=(true,[([],[]),([0],[0]),([],[]),([2],[2]),([3],[3]),([],[]),([4,5],[4,5]),([6],[6]),([7],[7]),([8],[8]),([1,9],[1,9]),([0,1,2,3,4,5,6,7,8,9,10],[]),([11,10,10,0,1,2,3,4,5,6,7,8,9,10],[10,11])])
def spec_ReadPlace.B13:List Nat:=[0,1,0,4,12,0,60,124,252,508,1023,2047,4095]
theorem spec_ReadPlace.tab13:rtab .any (opsOf Tryz.f67 13)=spec_ReadPlace.T13:=by kernel_rfl
theorem spec_ReadPlace.bits13:waitsOk spec_ReadPlace.T13.2 spec_ReadPlace.B13=true:=by kernel_rfl
theorem spec_ReadPlace.z0 {P_:Prop} (h_:P_:=by (try go_wp2_with (first|((with_reducible refine gate_dst (N:=42) rfl ?_);(try clear ix_);obtain ⟨p_,q_,ad_,e_,x0⟩:=a2_ (Kd.at_string (gC_ st Kd.string B10_0 ab) 2);have ix_:=ix1_ Tryz.underlying93 e_ p_ q_ (c:=d10_0);clear e_;(try simp only [Addr.add,Int.reduceToNat,Nat.reduceMul,Nat.reduceEqDiff,↓reduceIte] at ix_ x0);go_step)|((with_reducible refine gate_dst (N:=48) rfl ?_);(try clear ix_);obtain ⟨p_,q_,ad_,e_,x0⟩:=a2_ (Kd.at_string (gC_ st Kd.string B10_0 ab) 2);have ix_:=ix1_ Tryz.underlying93 e_ p_ q_ (c:=d10_0);clear e_;(try simp only [Addr.add,Int.reduceToNat,Nat.reduceMul,Nat.reduceEqDiff,↓reduceIte] at ix_ x0);go_step)|((with_reducible refine gate_store (p:=2) rfl ?_);refine so3_ st ?_;clear st cl;intro w_ st;have cl:=cl_ st)|((with_reducible refine gate_callee (f:=57) rfl ?_);refine gate_guard (by rfl) ?_;dsimp only;refine ca_ (some 70) Tryz.func57 _ (spec_PlaceText.calls k2 ac af _ _ ae ah _ _ _ (gtl_ st) (gtl_ st) (gtl_ st) (gtl_ st) A_70.out) ?_;rintro e w_ ⟨rfl,hb⟩;refine ⟨_,rfl,?_⟩;replace st:=st.ev hb;clear cl hb;have cl:=cl_ st)));(all_goals (try ((try clear ix_);obtain ⟨p_,q_,ad_579,e_579,x0⟩:=a2_ (Kd.at_string (gC_ st Kd.string B10_0 ab) 2);have ix579:=ix1_ Tryz.underlying93 e_579 p_ q_ (c:=d10_0);(try simp only [Addr.add,Int.reduceToNat,Nat.reduceMul,Nat.reduceEqDiff,↓reduceIte] at ix579);replace e_579:=A_ e_579;clear x0;refine rg_ st [12] ?_;clear st cl;intro w_ st hs;have cl:=cl_ st;refine with_tabW spec_ReadPlace.tab13 spec_ReadPlace.bits13 (fun HT_ HW_=>?_);refine pv_ 0 ?_;refine pv_ 2 ?_;refine pv_ 3 ?_;refine pv_ 5 ?_;refine tu_ 1 ?_;refine tu_ 4 ?_ (hy:=by intro w' s_;have cl:=cl_ s_;obtain ⟨_,_,_,e_,x0⟩:=a2_ (Kd.at_string (gC_ s_ Kd.string B10_0 ab) 2);rw [cq_ e_579.out e_] at x0;(try simp only [Addr.add,Int.reduceToNat,Nat.reduceMul,Nat.reduceEqDiff,↓reduceIte] at x0);clear e_;go_simp;first|with_reducible rfl|(rw [if_neg (by omega)];done));refine pv_ 6 ?_;refine pv_ 7 ?_;refine pv_ 8 ?_;refine ov_ 9 (fun K hK=>?_);refine bs2_ st [.int .i64 (wrap64 ((wrap64 (bt (rdOf ByteArray.empty ab 2) ak)) - 97))] 3 ?_;refine hK.out _ _ (st.ev (la_ (Below.refl _ _) _)).en (fun hs=>?_);clear hK K;refine nr_ 63 ?_;refine ov_ 10 (fun K hK=>?_);refine ap2_ ae ad (wrap64 ((wrap64 (bt (rdOf ByteArray.empty ab 2) ak)) - 97)) [.int .i64 (wrap64 ((wrap64 (bt (rdOf ByteArray.empty ab 2) ak)) - 97))] ((.int .i64 0)) 8 st Tryz.underlying33 ?_ (hl:=by have:=aJ.out;omega);clear st cl;intro P64 q64 w_ st;have cl:=cl_ st;refine hK.out _ _ st.en (fun hs=>?_);clear hK K;refine nr_ 64 ?_;refine pv_ 11 ?_;refine lv_ 12 (fun K hK=>?_);refine sp1_ st ?_;clear st cl;intro w_ st;have cl:=cl_ st;refine hK.out _ _ ?_;clear hK K;refine done_ (done_of HT_.out (by kernel_rfl)) ?_;all_goals (try go_wp2_with (first|((with_reducible refine gate_dst (N:=42) rfl ?_);(try clear ix_);obtain ⟨p_,q_,ad_,e_,x0⟩:=a2_ (Kd.at_string (gC_ st Kd.string B10_0 ab) 2);have ix_:=ix1_ Tryz.underlying93 e_ p_ q_ (c:=d10_0);clear e_;(try simp only [Addr.add,Int.reduceToNat,Nat.reduceMul,Nat.reduceEqDiff,↓reduceIte] at ix_ x0);go_step)|((with_reducible refine gate_dst (N:=48) rfl ?_);(try clear ix_);obtain ⟨p_,q_,ad_,e_,x0⟩:=a2_ (Kd.at_string (gC_ st Kd.string B10_0 ab) 2);have ix_:=ix1_ Tryz.underlying93 e_ p_ q_ (c:=d10_0);clear e_;(try simp only [Addr.add,Int.reduceToNat,Nat.reduceMul,Nat.reduceEqDiff,↓reduceIte] at ix_ x0);go_step)|((with_reducible refine gate_store (p:=2) rfl ?_);refine so3_ st ?_;clear st cl;intro w_ st;have cl:=cl_ st)|((with_reducible refine gate_callee (f:=57) rfl ?_);refine gate_guard (by rfl) ?_;dsimp only;refine ca_ (some 70) Tryz.func57 _ (spec_PlaceText.calls k2 ac af _ _ ae ah _ _ _ (gtl_ st) (gtl_ st) (gtl_ st) (gtl_ st) A_70.out) ?_;rintro e w_ ⟨rfl,hb⟩;refine ⟨_,rfl,?_⟩;replace st:=st.ev hb;clear cl hb;have cl:=cl_ st))))));first|(refine bodyPost_ret (rct_ st Tryz.underlying35) rfl ?_;exact ⟨.slice none 0 0,.slice none 0 0,tw_,kn_,kn_,st.b⟩)|(refine bodyPost_ret (rct_ st Tryz.underlying35) rfl ?_;exact ⟨.slice ac aa.length af,.slice ae ad.length ah,tw_,(tap_ st ac aa ae ad).1,(tap_ st ac aa ae ad).2,st.b⟩)|(go_roundg k2;(case measure=>have:=HK1.out;have:=HK2.out;omega);(case rel=>exact ⟨(wrap64 (ak+1)),((ad++[wrap64 ((wrap64 (bt (rdOf ByteArray.empty ab 2) ak)) - 97)])),P64,q64,tx_,H',⟨by have:=HK1.out;have:=HK2.out;omega⟩,(by (try simp only [List.length_append,List.length_cons,List.length_nil,Nat.zero_add] at st ⊢);exact st.en)⟩))):P_:=h_
theorem spec_ReadPlace.calls (k:Nat) (a0:ByteArray) (r1:List Int) (r2:Int) (r3:List Int) (r4:Bool) (w:World) (h:spec_ReadPlace.f k a0=some (r1,r2,r3,r4)) :
  Calls Tryz.prog 67 #[.string a0] w fun e w'=>∃v0_ v2_:Value,e=.returned (.tuple #[.agg #[v0_,.int .i64 r2,v2_],.bool r4])∧Kd.R (Kd.int .i64) 3 w' w.heap.size (fun k_=>some k_≠(v2_:Value).ownBlock) v0_ r1∧Kd.R (Kd.int .i64) 3 w' w.heap.size (fun k_=>some k_≠(v0_:Value).ownBlock) v2_ r3∧Below w.heap.size w w':=by
 have hu35:=Tryz.underlying35;have st:=ST.nil w;have s0:=st;have cl:=cl_ st;have H:=h;clear h;unfold spec_ReadPlace.f at H;go_enter Tryz.func67,Tryz.ntmps67;obtain ⟨ab,A_10,H⟩:=bnd_ H;by_cases c2:(ab.length:Int)=3
 ·
  rw [if_pos c2] at H;have aB:((ab.length:Int) == 3)=true:=beq_iff_eq.mpr c2;have aC:((ab.length:Int) != 3)=false:=bne_eq_false_iff_eq.mpr c2;clear c2;replace H:=i0_ H;obtain ⟨c3,H⟩:=H;have ao:decide (1<(ab.length:Int))=true:=decide_eq_true c3;have aA:decide (1<ab.length)=true:=decide_eq_true (by omega);clear c3;obtain ⟨aw,A_18,H⟩:=bnd_ H;replace H:=i0_ H;obtain ⟨c4,H⟩:=H;have aD:decide (0<(ab.length:Int))=true:=decide_eq_true c4;have aE:decide (0<ab.length)=true:=decide_eq_true (by omega);clear c4;obtain ⟨an,A_23,H⟩:=bnd_ H;have H':=A_ H;clear H;go_wp2_with (first|((with_reducible refine gate_dst (N:=2) rfl ?_);refine al_ st ?_;clear st cl;intro g2 w_ st;have cl:=cl_ st)|((with_reducible refine gate_callee (f:=105) rfl ?_);refine ca_ (some 10) Tryz.func105 _ (spec_l1Cut.calls k _ _ _ _ A_10.out) ?_;rintro e w_ ⟨v0,rfl,h0,hb⟩;refine ⟨_,rfl,?_⟩;obtain ⟨B10_0,d10_0,rfl⟩:=Kd.R_slice h0;replace st:=st.p1 hb (st.mr h0);clear cl hb h0;have cl:=cl_ st)|((with_reducible refine gate_dst (N:=16) rfl ?_);(try clear ix_);obtain ⟨p_,q_,ad_,e_,x0⟩:=a2_ (Kd.at_string (gC_ st Kd.string B10_0 ab) 1);have ix_:=ix1_ Tryz.underlying93 e_ p_ q_ (c:=d10_0);clear e_;(try simp only [Addr.add,Int.reduceToNat,Nat.reduceMul,Nat.reduceEqDiff,↓reduceIte] at ix_ x0);go_step)|((with_reducible refine gate_callee (f:=106) rfl ?_);refine ca_ (some 18) Tryz.func106 _ (spec_l15Signed.calls k _ _ _ A_18.out) ?_;rintro e w_ ⟨rfl,hb⟩;refine ⟨_,rfl,?_⟩;replace hb:=hb.below;replace st:=st.ev hb;clear cl hb;have cl:=cl_ st)|((with_reducible refine gate_dst (N:=5) rfl ?_);refine al_ st ?_;clear st cl;intro g5 w_ st;have cl:=cl_ st)|((with_reducible refine gate_store (p:=5) rfl ?_);refine so3_ st ?_;clear st cl;intro w_ st;have cl:=cl_ st)|((with_reducible refine gate_dst (N:=21) rfl ?_);(try clear ix_);obtain ⟨p_,q_,ad_,e_,x0⟩:=a2_ (Kd.at_string (gC_ st Kd.string B10_0 ab) 0);have ix_:=ix1_ Tryz.underlying93 e_ p_ q_ (c:=d10_0);clear e_;(try simp only [Addr.add,Int.reduceToNat,Nat.reduceMul,Nat.reduceEqDiff,↓reduceIte] at ix_ x0);go_step)|((with_reducible refine gate_callee (f:=105) rfl ?_);refine ca_ (some 23) Tryz.func105 _ (spec_l1Cut.calls k _ _ _ _ A_23.out) ?_;rintro e w_ ⟨v0,rfl,h0,hb⟩;refine ⟨_,rfl,?_⟩;obtain ⟨B23_0,d23_0,rfl⟩:=Kd.R_slice h0;replace st:=st.p1 hb (st.mr h0);clear cl hb h0;have cl:=cl_ st))
  go_loopg [7] k (fun kq v7 w'=>∃(am:Int) (aa:List Int) (ac:Option Addr) (af:Nat),v7=.int .i64 am∧Aside0 (spec_ReadPlace.l0 kq a0 ab an am aa aw=some (r1,r2,r3,r4))∧Aside0 (kq≤k)∧ST w [AR Kd.string 9 w.heap.size (.slice B10_0 ab.length d10_0) ab,AR Kd.string 9 w.heap.size (.slice B23_0 an.length d23_0) an] [AR (Kd.int .i64) 3 w.heap.size (.slice none 0 0) ([]:List Int),AR (Kd.int .i64) 3 w.heap.size (.slice none 0 0) ([]:List Int),AR (Kd.int .i64) 3 w.heap.size (.slice ac aa.length af) aa,AR (Kd.int .i64) 3 w.heap.size (.slice none 0 0) ([]:List Int),Bx g2 #[.slice none 0 0,.int .i64 0,.slice none 0 0] 35,Bx g5 #[.slice ac aa.length af,.int .i64 aw,.slice none 0 0] 35] w')
  case atStart=>exact ⟨(0),(([]:List Int)),none,0,tx_,H',⟨Nat.le_refl _⟩,((((st.nl (Kd.int .i64) 3).nl (Kd.int .i64) 3).nl (Kd.int .i64) 3).nl (Kd.int .i64) 3).en⟩
  case round =>
   clear H' st cl;obtain ⟨am,aa,ac,af,rfl,HA,HK1,st⟩:=hrel;have cl:=cl_ st
   cases gk with
   |zero=>exact absurd HA.out (by simp [spec_ReadPlace.l0])
   |succ k1 =>
    have H:=HA.out;clear HA;simp only [spec_ReadPlace.l0] at H;replace H:=it_ H;rcases H with ⟨az,H⟩|⟨az,H⟩
    ·
     replace H:=in_ H;obtain ⟨aG,H⟩:=H;obtain ⟨av,A_36,H⟩:=bnd_ H;replace H:=il_ H;obtain ⟨aZ,H⟩:=H;have H':=A_ H;clear H;(try go_wp2);(all_goals ((try clear ix_);obtain ⟨p_,q_,ad_571,e_571,x0⟩:=a2_ (Kd.at_string (gC_ st Kd.string B23_0 an) am);have ix571:=ix1_ Tryz.underlying93 e_571 p_ q_ (c:=d23_0);replace e_571:=A_ e_571;clear x0;refine rg_ st [10] ?_;clear st cl;intro w_ st hs;have cl:=cl_ st;refine with_tabW spec_ReadPlace.tab9 spec_ReadPlace.bits9 (fun HT_ HW_=>?_);refine pv_ 0 ?_;refine pv_ 2 ?_;refine pv_ 3 ?_;refine pv_ 4 ?_;refine tu_ 1 ?_;refine tu_ 5 ?_ (hy:=by intro w' s_;have cl:=cl_ s_;obtain ⟨_,_,_,e_,x0⟩:=a2_ (Kd.at_string (gC_ s_ Kd.string B23_0 an) am);rw [cq_ e_571.out e_] at x0;clear e_;go_simp;first|with_reducible rfl|(rw [if_neg (by omega)];done));refine ov_ 6 (fun K hK=>?_);refine ca2_ (some 36) Tryz.func107 _ (spec_l1Digits.calls k1 _ _ _ A_36.out) ?_;rintro e w_ ⟨rfl,hb⟩;refine ⟨_,rfl,?_⟩;replace hb:=hb.below;replace st:=st.ev hb;clear cl hb;have cl:=cl_ st;refine hK.out _ _ st.en (fun hs=>?_);clear hK K;refine nr_ 36 ?_;refine ov_ 7 (fun K hK=>?_);refine bs2_ st [.int .i64 av] 3 ?_;refine hK.out _ _ (st.ev (la_ (Below.refl _ _) _)).en (fun hs=>?_);clear hK K;refine nr_ 37 ?_;refine ov_ 8 (fun K hK=>?_);refine ap2_ ac aa av [.int .i64 av] ((.int .i64 0)) 8 st Tryz.underlying33 ?_ (hl:=by have:=aZ.out;omega);clear st cl;intro P38 q38 w_ st;have cl:=cl_ st;refine hK.out _ _ st.en (fun hs=>?_);clear hK K;refine nr_ 38 ?_;refine pv_ 9 ?_;refine lv_ 10 (fun K hK=>?_);refine sp1_ st ?_;clear st cl;intro w_ st;have cl:=cl_ st;refine hK.out _ _ ?_;clear hK K;refine done_ (done_of HT_.out (by kernel_rfl)) ?_;all_goals (try go_wp2)))
     go_roundg k1
     case measure=>have:=HK1.out;omega
     case rel=>exact ⟨(wrap64 (am+1)),((aa++[av])),P38,q38,tx_,H',⟨by have:=HK1.out;omega⟩,(by (try simp only [List.length_append,List.length_cons,List.length_nil,Nat.zero_add] at st ⊢);exact (((st.nl (Kd.int .i64) 3).nl (Kd.int .i64) 3).nl (Kd.int .i64) 3).en)⟩
    ·
     have H':=A_ H;clear H;go_wp2
     go_loopg [8] k1 (fun kq v8 w'=>∃(ak:Int) (ad:List Int) (ae:Option Addr) (ah:Nat),v8=.int .i64 ak∧Aside0 (spec_ReadPlace.l1 kq a0 ab ak aa aw ad=some (r1,r2,r3,r4))∧Aside0 (kq≤k1)∧ST w [AR Kd.string 9 w.heap.size (.slice B10_0 ab.length d10_0) ab] [AR (Kd.int .i64) 3 w.heap.size (.slice ac aa.length af) aa,AR (Kd.int .i64) 3 w.heap.size (.slice ae ad.length ah) ad,Bx g2 #[.slice none 0 0,.int .i64 0,.slice none 0 0] 35,Bx g5 #[.slice ac aa.length af,.int .i64 aw,.slice ae ad.length ah] 35] w')
     case atStart=>exact ⟨(0),(([]:List Int)),none,0,tx_,H',⟨Nat.le_refl _⟩,(st.nl (Kd.int .i64) 3).en⟩
     case round =>
      clear H' st cl;obtain ⟨ak,ad,ae,ah,rfl,HA,HK2,st⟩:=hrel;have cl:=cl_ st
      cases gk with
      |zero=>exact absurd HA.out (by simp [spec_ReadPlace.l1])
      |succ k2 =>
       have H:=HA.out;clear HA;simp only [spec_ReadPlace.l1] at H;replace H:=i0_ H;obtain ⟨c10,H⟩:=H;have aH:decide (2<(ab.length:Int))=true:=decide_eq_true c10;have aI:decide (2<ab.length)=true:=decide_eq_true (by omega);clear c10;replace H:=it_ H;rcases H with ⟨aK,H⟩|⟨aK,H⟩
       ·
        by_cases c12:(rdOf ByteArray.empty ab 2).toList=([46]:List UInt8)
        ·
         rw [if_pos c12] at H;have aL:((rdOf ByteArray.empty ab 2).toList == ([46]:List UInt8))=true:=beq_iff_eq.mpr c12;have aM:((rdOf ByteArray.empty ab 2).toList != ([46]:List UInt8))=false:=bne_eq_false_iff_eq.mpr c12;clear c12;by_cases c13:a0.toList=([]:List UInt8)
         ·
          rw [if_pos c13] at H;have ay:(a0.toList == ([]:List UInt8))=true:=beq_iff_eq.mpr c13;have aN:(a0.toList != ([]:List UInt8))=false:=bne_eq_false_iff_eq.mpr c13;clear c13;obtain ⟨rfl,rfl,rfl,rfl⟩:=sj4_ H;exact spec_ReadPlace.z0
         ·
          rw [if_neg c13] at H;have ay:(a0.toList == ([]:List UInt8))=false:=beq_eq_false_iff_ne.mpr c13;have aN:(a0.toList != ([]:List UInt8))=true:=bne_iff_ne.mpr c13;obtain ⟨ap,A_70,H⟩:=bnd_ H;by_cases c14:ap.toList=a0.toList
          ·
           rw [if_pos c14] at H;have aO:(ap.toList == a0.toList)=true:=beq_iff_eq.mpr c14;have aP:(ap.toList != a0.toList)=false:=bne_eq_false_iff_eq.mpr c14;clear c14;obtain ⟨rfl,rfl,rfl,rfl⟩:=sj4_ H;exact spec_ReadPlace.z0
          ·
           rw [if_neg c14] at H;have aO:(ap.toList == a0.toList)=false:=beq_eq_false_iff_ne.mpr c14;have aP:(ap.toList != a0.toList)=true:=bne_iff_ne.mpr c14;obtain ⟨rfl,rfl,rfl,rfl⟩:=sj4_ H;exact spec_ReadPlace.z0
        ·
         rw [if_neg c12] at H;have aL:((rdOf ByteArray.empty ab 2).toList == ([46]:List UInt8))=false:=beq_eq_false_iff_ne.mpr c12;have aM:((rdOf ByteArray.empty ab 2).toList != ([46]:List UInt8))=true:=bne_iff_ne.mpr c12;replace H:=in_ H;obtain ⟨a5,H⟩:=H;have y16a:(0≤(ak:Int))=True:=eq_true (by first|exact od_|omega);have y16b:((ak:Int)<((rdOf ByteArray.empty ab 2).size:Int))=True:=eq_true (by first|exact od_|omega);have y16x:=bt_at (rdOf ByteArray.empty ab 2) ak;replace H:=il_ H;obtain ⟨aJ,H⟩:=H;have H':=A_ H;clear H;exact spec_ReadPlace.z0
       ·
        by_cases c18:a0.toList=([]:List UInt8)
        ·
         rw [if_pos c18] at H;have aQ:(a0.toList == ([]:List UInt8))=true:=beq_iff_eq.mpr c18;have aR:(a0.toList != ([]:List UInt8))=false:=bne_eq_false_iff_eq.mpr c18;clear c18;obtain ⟨rfl,rfl,rfl,rfl⟩:=sj4_ H;exact spec_ReadPlace.z0
        ·
         rw [if_neg c18] at H;have aQ:(a0.toList == ([]:List UInt8))=false:=beq_eq_false_iff_ne.mpr c18;have aR:(a0.toList != ([]:List UInt8))=true:=bne_iff_ne.mpr c18;obtain ⟨aq,A_70,H⟩:=bnd_ H;by_cases c19:aq.toList=a0.toList
         ·
          rw [if_pos c19] at H;have aU:(aq.toList == a0.toList)=true:=beq_iff_eq.mpr c19;have aV:(aq.toList != a0.toList)=false:=bne_eq_false_iff_eq.mpr c19;clear c19;obtain ⟨rfl,rfl,rfl,rfl⟩:=sj4_ H;exact spec_ReadPlace.z0
         ·
          rw [if_neg c19] at H;have aU:(aq.toList == a0.toList)=false:=beq_eq_false_iff_ne.mpr c19;have aV:(aq.toList != a0.toList)=true:=bne_iff_ne.mpr c19;obtain ⟨rfl,rfl,rfl,rfl⟩:=sj4_ H;exact spec_ReadPlace.z0
 ·
  rw [if_neg c2] at H;have aB:((ab.length:Int) == 3)=false:=beq_eq_false_iff_ne.mpr c2;have aC:((ab.length:Int) != 3)=true:=bne_iff_ne.mpr c2;obtain ⟨rfl,rfl,rfl,rfl⟩:=sj4_ H;go_wp2_with (first|((with_reducible refine gate_dst (N:=2) rfl ?_);refine al_ st ?_;clear st cl;intro g2 w_ st;have cl:=cl_ st)|((with_reducible refine gate_callee (f:=105) rfl ?_);refine ca_ (some 10) Tryz.func105 _ (spec_l1Cut.calls k _ _ _ _ A_10.out) ?_;rintro e w_ ⟨v0,rfl,h0,hb⟩;refine ⟨_,rfl,?_⟩;obtain ⟨B10_0,d10_0,rfl⟩:=Kd.R_slice h0;replace st:=st.p1 hb (st.mr h0);clear cl hb h0;have cl:=cl_ st)|((with_reducible refine gate_store (p:=2) rfl ?_);refine so3_ st ?_;clear st cl;intro w_ st;have cl:=cl_ st));refine bodyPost_ret (rct_ st Tryz.underlying35) rfl ?_;exact ⟨.slice none 0 0,.slice none 0 0,tw_,kn_,kn_,st.b⟩
def spec_StoreOk.f (k:Nat) (a0_0:ByteArray) (a0_1:ByteArray) (a0_2:Int):Option (Bool):=(spec_ReadPlace.f k a0_0).bind fun aW=>(if aW.2.2.2=true then (if (a0_1.size:Int)≤1000 then ((spec_l1In.f a0_2 0 (a0_1.size:Int)).bind fun aX=>(some aX)) else (some false)) else (some false))
theorem spec_StoreOk.z0 {P_:Prop} (h_:P_:=by go_wp2_with (first|((with_reducible refine gate_dst (N:=1) rfl ?_);refine al_ st ?_;clear st cl;intro g1 w_ st;have cl:=cl_ st)|((with_reducible refine gate_callee (f:=67) rfl ?_);refine ca_ (some 8) Tryz.func67 _ (spec_ReadPlace.calls k _ _ _ _ _ _ A_8.out) ?_;rintro e w_ ⟨v0,v1,rfl,h0,h1,hb⟩;refine ⟨_,rfl,?_⟩;obtain ⟨B8_0,d8_0,rfl⟩:=Kd.R_slice h0;obtain ⟨B8_2,d8_2,rfl⟩:=Kd.R_slice h1;replace st:=st.p2 hb (st.mr h0) (st.mr h1);clear cl hb h0 h1;have cl:=cl_ st)|((with_reducible refine gate_dst (N:=3) rfl ?_);refine al_ st ?_;clear st cl;intro g3 w_ st;have cl:=cl_ st)|((with_reducible refine gate_store (p:=3) rfl ?_);refine so3_ st ?_;clear st cl;intro w_ st;have cl:=cl_ st)|((with_reducible refine gate_callee (f:=69) rfl ?_);refine gate_guard (by rfl) ?_;dsimp only;refine ca_ (some 24) Tryz.func69 _ (spec_l1In.calls _ _ _ _ _ A_24.out) ?_;rintro e w_ ⟨rfl,hb⟩;refine ⟨_,rfl,?_⟩;replace hb:=hb.below;replace st:=st.ev hb;clear cl hb;have cl:=cl_ st));(go_ret;exact ⟨tw_,st.b⟩)):P_:=h_
theorem spec_StoreOk.calls (k:Nat) (a0_0:ByteArray) (a0_1:ByteArray) (a0_2:Int) (r:Bool) (w:World) (h:spec_StoreOk.f k a0_0 a0_1 a0_2=some r) :
  Calls Tryz.prog 34 #[.agg #[.string a0_0,.string a0_1,.int .i64 a0_2]] w fun e w'=>e=.returned (.bool r)∧Below w.heap.size w w':=by
 have hu24:=Tryz.underlying24;have hu35:=Tryz.underlying35;have st:=ST.nil w;have s0:=st;have cl:=cl_ st;have H:=h;clear h;unfold spec_StoreOk.f at H;go_enter Tryz.func34,Tryz.ntmps34;obtain ⟨⟨a7,a8,a9,a3⟩,A_8,H⟩:=bnd_ H;(try dsimp only at H);rcases bx_ a3 with rfl|rfl
 ·
  replace H:=bt_ H;by_cases c2:(a0_1.size:Int)≤1000
  ·
   rw [if_pos c2] at H;have aB:decide ((a0_1.size:Int)≤1000)=true:=decide_eq_true c2;have aC:decide (a0_1.size≤1000)=true:=decide_eq_true (by omega);clear c2;obtain ⟨aX,A_24,H⟩:=bnd_ H;obtain rfl:=Option.some.inj H;exact spec_StoreOk.z0
  ·
   rw [if_neg c2] at H;have aB:decide ((a0_1.size:Int)≤1000)=false:=decide_eq_false c2;have aC:decide (a0_1.size≤1000)=false:=decide_eq_false (by omega);clear c2;obtain rfl:=Option.some.inj H;exact spec_StoreOk.z0
 ·
  replace H:=bf_ H;obtain rfl:=Option.some.inj H;exact spec_StoreOk.z0
end Go.Proofs.YtopboabeigakoaaGreatDoor.MFnStoreNever
