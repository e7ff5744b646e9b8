/- For the law FnStoreOpen: walks of the functions that it reaches: each call returns what the plain function beside it tells. The conditions stand in each statement. -/
import Derived.Test.YtopboabeigakoaaGreatDoorV
import Derived.Test.YtopboabeigakoaaGreatDoorMFnStoreOpenx0
import Derived.Test.YtopboabeigakoaaGreatDoorMFnStoreOpenx11
import Derived.Test.YtopboabeigakoaaGreatDoorMFnStoreOpenx12
import Derived.Test.YtopboabeigakoaaGreatDoorMFnStoreOpenx13
namespace Go.Proofs.YtopboabeigakoaaGreatDoor.MFnStoreOpen
open Go.RowKit Go.Proofs.YtopboabeigakoaaGreatDoorW.PrintWords Go.Proofs.YtopboabeigakoaaGreatDoorW.PrintLast Go.Proofs.YtopboabeigakoaaGreatDoorW.PrintMore
attribute [local go_sem] max2_int min2_int max_two min_two max_three min_three max_four min_four   -- for this text's walks alone
set_option linter.unusedVariables false
set_option linter.unusedSimpArgs false
set_option maxHeartbeats 8000000
set_option maxRecDepth 100000
mutual
def spec_ReadDeed.j0:Nat→ByteArray→List ByteArray→List (S43)→Option (Int×Int×Int×Bool)
 |0,_,_,_=>none
 |k+1,x0,x4,x5=>if (x4.length:Int)=3 then (if 1<(x4.length:Int) then ((spec_l15Signed.f k (rdOf ByteArray.empty x4 1)).bind fun aw=>(if 2<(x4.length:Int) then ((spec_l15Signed.f k (rdOf ByteArray.empty x4 2)).bind fun ax=>(if x5.length<5864062014805 then (spec_ReadDeed.j1 k x0 (x5++[(⟨0,aw,ax⟩:S43)])) else (none))) else (none))) else (none)) else (spec_ReadDeed.j1 k x0 x5)
def spec_ReadDeed.j1:Nat→ByteArray→List (S43)→Option (Int×Int×Int×Bool)
 |0,_,_=>none
 |k+1,x0,x5=>spec_ReadDeed.l0 k x0 x5 0
def spec_ReadDeed.l0:Nat→ByteArray→List (S43)→Int→Option (Int×Int×Int×Bool)
 |0,_,_,_=>none
 |k+1,x0,x5,x7=>if x7<(x5.length:Int) then (if x0.toList=([]:List UInt8) then (spec_ReadDeed.l0 k x0 x5 (wrap64 (x7+1))) else (if 0≤x7 then ((spec_DeedText.f k ((rd_T43 x5 x7).f0) ((rd_T43 x5 x7).f1) ((rd_T43 x5 x7).f2)).bind fun ay=>(if ay.toList=x0.toList then (some ((rd_T43 x5 x7).f0,(rd_T43 x5 x7).f1,(rd_T43 x5 x7).f2,true)) else (spec_ReadDeed.l0 k x0 x5 (wrap64 (x7+1))))) else (none))) else (some (0,0,0,false))
end
def spec_ReadDeed.f (k:Nat) (a0:ByteArray):Option (Int×Int×Int×Bool):=(spec_l1Cut.f k a0 32).bind fun aa=>((some (([(⟨3,0,0⟩:S43),(⟨4,0,0⟩:S43)]:List (S43)):List (S43))).bind fun aN=>(if (aa.length:Int)=2 then (if 1<(aa.length:Int) then ((spec_l15Signed.f k (rdOf ByteArray.empty aa 1)).bind fun ag=>((some (([(⟨1,ag,0⟩:S43),(⟨2,ag,0⟩:S43)]:List (S43)):List (S43))).bind fun a4=>(if aN.length+a4.length<5864062014805 then (spec_ReadDeed.j0 k a0 aa (aN++a4)) else (none)))) else (none)) else (spec_ReadDeed.j0 k a0 aa aN)))
def spec_ReadDeed.T7:Bool×List (List Nat×List Nat):=(true,[([],[]),([],[]),([1],[1]),([2],[2]),([3],[3]),([],[]),([5],[5]),([6],[6]),([7,4],[7]),([4,8],[4,8]),([9],[9]),([0,10,8],[0,10]),([11,11,0,1,2,3,4,5,6,7,8,9,10,11],[0,11])])
def spec_ReadDeed.B7:List Nat:=[0,0,2,6,14,0,32,96,254,510,1022,2047,4095]
theorem spec_ReadDeed.tab7:rtab .any (opsOf Tryz.f88 7)=spec_ReadDeed.T7:=by kernel_rfl
theorem spec_ReadDeed.bits7:waitsOk spec_ReadDeed.T7.2 spec_ReadDeed.B7=true:=by kernel_rfl
theorem spec_ReadDeed.z0 {P_:Prop} (h_:P_:=by go_wp2_with (first|((with_reducible refine gate_dst (N:=17) rfl ?_);(try clear ix_);obtain ⟨p_,q_,ad_,e_,x0⟩:=a2_ (Kd.at_string (gC_ st Kd.string B9_0 aa) 1);have ix_:=ix1_ Tryz.underlying93 e_ p_ q_ (c:=d9_0);clear e_;(try simp only [Addr.add,Int.reduceToNat,Nat.reduceMul,Nat.reduceEqDiff,↓reduceIte] at ix_ x0);go_step)|((with_reducible refine gate_callee (f:=106) rfl ?_);refine ca_ (some 19) Tryz.func106 _ (spec_l15Signed.calls k _ _ _ A_19.out) ?_;rintro e w_ ⟨rfl,hb⟩;refine ⟨_,rfl,?_⟩;replace hb:=hb.below;replace st:=st.ev hb;clear cl hb;have cl:=cl_ st)|((with_reducible refine gate_dst (N:=25) rfl ?_);refine nw_ k43 43 (([(⟨1,ag,0⟩:S43),(⟨2,ag,0⟩:S43)]:List (S43)):List (S43)) [.int .i64 1,.int .i64 ag,.int .i64 0,.int .i64 2,.int .i64 ag,.int .i64 0] st ?_ (hrep:=by repeat (first|exact Reps.none _ _|refine Reps.c3 (k43_mkM _ _ _ _) ?_));clear st cl;intro B25_0 d25_0 w_ st;have cl:=cl_ st)|((with_reducible refine gate_dst (N:=26) rfl ?_);refine apr_ B12_0 (([(⟨3,0,0⟩:S43),(⟨4,0,0⟩:S43)]:List (S43))) (([(⟨1,ag,0⟩:S43),(⟨2,ag,0⟩:S43)]:List (S43))) B25_0 d25_0 ((.agg #[(.int .i64 0),(.int .i64 0),(.int .i64 0)])) 24 st Tryz.underlying30 (gt_ st) ?_ (hl:=by have:=bh.out;omega) (hKM:=fun x _ h=>k43_open h ▸ k43_mkM _ _ _ x);clear st cl;intro P26 q26 w_ st;have cl:=cl_ st));first|(go_meet;(case rel=>exact ⟨_,(((([(⟨3,0,0⟩:S43),(⟨4,0,0⟩:S43)]:List (S43)))++(([(⟨1,ag,0⟩:S43),(⟨2,ag,0⟩:S43)]:List (S43))))),P26,q26,tx_,H',⟨by first|omega|exact Nat.le_refl _⟩,st.en⟩))|(go_meet;(case rel=>exact ⟨_,((([(⟨3,0,0⟩:S43),(⟨4,0,0⟩:S43)]:List (S43)))),B12_0,d12_0,tx_,H',⟨by first|omega|exact Nat.le_refl _⟩,st.en⟩))):P_:=h_
theorem spec_ReadDeed.z1 {P_:Prop} (h_:P_:=by go_wp2_with (first|((with_reducible refine gate_dst (N:=53) rfl ?_);(try clear ix_);obtain ⟨p_,q_,ad_,e_,x0,x1,x2⟩:=a2_ (at_T43 (gC_ st k43 aE ah) al);have ix_:=ix3_ Tryz.underlying30 e_ p_ q_ (c:=aF);clear e_;go_step)|((with_reducible refine gate_callee (f:=61) rfl ?_);refine gate_guard (by rfl) ?_;dsimp only;refine ca_ (some 55) Tryz.func61 _ (spec_DeedText.calls k3 _ _ _ _ _ A_55.out) ?_;rintro e w_ ⟨rfl,hb⟩;refine ⟨_,rfl,?_⟩;replace st:=st.ev hb;clear cl hb;have cl:=cl_ st)|((with_reducible refine gate_dst (N:=61) rfl ?_);(try clear ix_);obtain ⟨p_,q_,ad_,e_,x0,x1,x2⟩:=a2_ (at_T43 (gC_ st k43 aE ah) al);have ix_:=ix3_ Tryz.underlying30 e_ p_ q_ (c:=aF);clear e_;go_step)|((with_reducible refine gate_store (p:=2) rfl ?_);refine so3_ st ?_;clear st cl;intro w_ st;have cl:=cl_ st));first|(go_roundg k3;(case measure=>have:=HJ2.out;have:=HJ7.out;have:=HK3.out;omega);(case rel=>exact ⟨(wrap64 (al+1)),(ai),(aj),(ak),tx_,H',⟨by have:=HJ2.out;have:=HJ7.out;have:=HK3.out;omega⟩,st.en⟩))|(refine bodyPost_ret (rct_ st Tryz.underlying43) rfl ?_;exact ⟨tw_,st.b⟩)):P_:=h_
theorem spec_ReadDeed.calls (k:Nat) (a0:ByteArray) (r1:Int) (r2:Int) (r3:Int) (r4:Bool) (w:World) (h:spec_ReadDeed.f k a0=some (r1,r2,r3,r4)) :
  Calls Tryz.prog 88 #[.string a0] w fun e w'=>e=.returned (.tuple #[.agg #[.int .i64 r1,.int .i64 r2,.int .i64 r3],.bool r4])∧Below w.heap.size w w':=by
 have hu43:=Tryz.underlying43;have st:=ST.nil w;have s0:=st;have cl:=cl_ st;have H:=h;clear h;unfold spec_ReadDeed.f at H;go_enter Tryz.func88,Tryz.ntmps88;obtain ⟨aa,A_9,H⟩:=bnd_ H;replace H:=sm_ H;(try dsimp only at H);have HC3:=A_ H;clear H
 go_upto_if 15 with (first|((with_reducible refine gate_dst (N:=2) rfl ?_);refine al_ st ?_;clear st cl;intro g2 w_ st;have cl:=cl_ st)|((with_reducible refine gate_callee (f:=105) rfl ?_);refine ca_ (some 9) Tryz.func105 _ (spec_l1Cut.calls k _ _ _ _ A_9.out) ?_;rintro e w_ ⟨v0,rfl,h0,hb⟩;refine ⟨_,rfl,?_⟩;obtain ⟨B9_0,d9_0,rfl⟩:=Kd.R_slice h0;replace st:=st.p1 hb (st.mr h0);clear cl hb h0;have cl:=cl_ st)|((with_reducible refine gate_dst (N:=12) rfl ?_);refine nwl_ k43 43 (([(⟨3,0,0⟩:S43),(⟨4,0,0⟩:S43)]:List (S43)):List (S43)) [.int .i64 3,.int .i64 0,.int .i64 0,.int .i64 4,.int .i64 0,.int .i64 0] st ?_ (hrep:=by repeat (first|exact Reps.none _ _|refine Reps.c3 (k43_mkM _ _ _ _) ?_));clear st cl;intro B12_0 d12_0 w_ st;have cl:=cl_ st))
 (try simp only [Act.put,sa_,sb_,sc_])
 go_cut [5] (fun v5 wc=>∃(kq:Nat) (am:List (S43)) (aG:Option Addr) (aM:Nat),v5=.slice aG am.length aM∧Aside0 (spec_ReadDeed.j0 kq a0 aa am=some (r1,r2,r3,r4))∧Aside0 (kq≤k)∧ST w [AR Kd.string 9 w.heap.size (.slice B9_0 aa.length d9_0) aa] [AR k43 43 w.heap.size (.slice aG am.length aM) am,Bx g2 #[.int .i64 0,.int .i64 0,.int .i64 0] 43] wc)
 case first =>
  have H:=HC3.out;clear HC3;by_cases c4:(aa.length:Int)=2
  ·
   rw [if_pos c4] at H;have az:((aa.length:Int) == 2)=true:=beq_iff_eq.mpr c4;have bi:((aa.length:Int) != 2)=false:=bne_eq_false_iff_eq.mpr c4;clear c4;(first|rw [az]|(simp only [i64_w,i32_w];rw [az])|skip);replace H:=i0_ H;obtain ⟨c5,H⟩:=H;have bs:decide (1<(aa.length:Int))=true:=decide_eq_true c5;have bu:decide (1<aa.length)=true:=decide_eq_true (by omega);clear c5;obtain ⟨ag,A_19,H⟩:=bnd_ H;replace H:=sm_ H;(try dsimp only at H);replace H:=il_ H;obtain ⟨bh,H⟩:=H;have H':=A_ H;clear H;exact spec_ReadDeed.z0
  ·
   rw [if_neg c4] at H;have az:((aa.length:Int) == 2)=false:=beq_eq_false_iff_ne.mpr c4;have bi:((aa.length:Int) != 2)=true:=bne_iff_ne.mpr c4;(first|rw [az]|(simp only [i64_w,i32_w];rw [az])|skip);have H':=A_ H;clear H;exact spec_ReadDeed.z0
 case rest =>
  clear HC3 st cl;obtain ⟨kq,am,aG,aM,rfl,HA,HJ2,st⟩:=hcut;have cl:=cl_ st
  cases kq with
  |zero=>exact absurd HA.out (by simp [spec_ReadDeed.j0])
  |succ kj2 =>
   have H:=HA.out;clear HA;simp only [spec_ReadDeed.j0] at H;have HC8:=A_ H;clear H
   go_upto_if 29 with (fail)
   go_cut [5] (fun v5 wc=>∃(kq:Nat) (ah:List (S43)) (aE:Option Addr) (aF:Nat),v5=.slice aE ah.length aF∧Aside0 (spec_ReadDeed.j1 kq a0 ah=some (r1,r2,r3,r4))∧Aside0 (kq≤kj2)∧ST w [AR k43 43 w.heap.size (.slice aE ah.length aF) ah] [Bx g2 #[.int .i64 0,.int .i64 0,.int .i64 0] 43] wc)
   case first =>
    have H:=HC8.out;clear HC8;by_cases c9:(aa.length:Int)=3
    ·
     rw [if_pos c9] at H;have aH:((aa.length:Int) == 3)=true:=beq_iff_eq.mpr c9;have a5:((aa.length:Int) != 3)=false:=bne_eq_false_iff_eq.mpr c9;clear c9;(first|rw [aH]|(simp only [i64_w,i32_w];rw [aH])|skip);replace H:=i0_ H;obtain ⟨c10,H⟩:=H;have bn:decide (1<(aa.length:Int))=true:=decide_eq_true c10;have bo:decide (1<aa.length)=true:=decide_eq_true (by omega);clear c10;obtain ⟨aw,A_34,H⟩:=bnd_ H;replace H:=i0_ H;obtain ⟨c11,H⟩:=H;have bp:decide (2<(aa.length:Int))=true:=decide_eq_true c11;have bq:decide (2<aa.length)=true:=decide_eq_true (by omega);clear c11;obtain ⟨ax,A_38,H⟩:=bnd_ H;replace H:=il_ H;obtain ⟨a6,H⟩:=H;have H':=A_ H;clear H;(try go_wp2);(all_goals ((try clear ix_);obtain ⟨p_,q_,ad_621,e_621,x0⟩:=a2_ (Kd.at_string (gC_ st Kd.string B9_0 aa) 1);have ix621:=ix1_ Tryz.underlying93 e_621 p_ q_ (c:=d9_0);(try simp only [Addr.add,Int.reduceToNat,Nat.reduceMul,Nat.reduceEqDiff,↓reduceIte] at ix621);replace e_621:=A_ e_621;clear x0;obtain ⟨p_,q_,ad_623,e_623,x0⟩:=a2_ (Kd.at_string (gC_ st Kd.string B9_0 aa) 2);have ix623:=ix1_ Tryz.underlying93 e_623 p_ q_ (c:=d9_0);(try simp only [Addr.add,Int.reduceToNat,Nat.reduceMul,Nat.reduceEqDiff,↓reduceIte] at ix623);replace e_623:=A_ e_623;clear x0;refine rg_ st [] ?_;clear st cl;intro w_ st hs;have cl:=cl_ st;refine with_tabW spec_ReadDeed.tab7 spec_ReadDeed.bits7 (fun HT_ HW_=>?_);refine pv_ 0 ?_;refine pv_ 1 ?_;refine pv_ 2 ?_;refine pv_ 5 ?_;refine pv_ 6 ?_;refine tu_ 3 ?_ (hy:=by intro w' s_;have cl:=cl_ s_;obtain ⟨_,_,_,e_,x0⟩:=a2_ (Kd.at_string (gC_ s_ Kd.string B9_0 aa) 1);rw [cq_ e_621.out e_] at x0;(try simp only [Addr.add,Int.reduceToNat,Nat.reduceMul,Nat.reduceEqDiff,↓reduceIte] at x0);clear e_;go_simp;first|with_reducible rfl|(rw [if_neg (by omega)];done));refine tu_ 7 ?_ (hy:=by intro w' s_;have cl:=cl_ s_;obtain ⟨_,_,_,e_,x0⟩:=a2_ (Kd.at_string (gC_ s_ Kd.string B9_0 aa) 2);rw [cq_ e_623.out e_] at x0;(try simp only [Addr.add,Int.reduceToNat,Nat.reduceMul,Nat.reduceEqDiff,↓reduceIte] at x0);clear e_;go_simp;first|with_reducible rfl|(rw [if_neg (by omega)];done));refine ov_ 4 (fun K hK=>?_);refine ca2_ (some 34) Tryz.func106 _ (spec_l15Signed.calls kj2 _ _ _ A_34.out) ?_;rintro e w_ ⟨rfl,hb⟩;refine ⟨_,rfl,?_⟩;replace hb:=hb.below;replace st:=st.ev hb;clear cl hb;have cl:=cl_ st;refine hK.out _ _ st.en (fun hs=>?_);clear hK K;refine nr_ 34 ?_;refine ov_ 8 (fun K hK=>?_);refine ca2_ (some 38) Tryz.func106 _ (spec_l15Signed.calls kj2 _ _ _ A_38.out) ?_;rintro e w_ ⟨rfl,hb⟩;refine ⟨_,rfl,?_⟩;replace hb:=hb.below;replace st:=st.ev hb;clear cl hb;have cl:=cl_ st;refine hK.out _ _ st.en (fun hs=>?_);clear hK K;refine nr_ 38 ?_;refine pv_ 9 ?_;refine ov_ 10 (fun K hK=>?_);refine bs2_ st [.int .i64 0,.int .i64 aw,.int .i64 ax] 43 ?_;refine hK.out _ _ (st.ev (la_ (Below.refl _ _) _)).en (fun hs=>?_);clear hK K;refine nr_ 40 ?_;refine ov_ 11 (fun K hK=>?_);refine ap2_ aG am (⟨0,aw,ax⟩:S43) [.int .i64 0,.int .i64 aw,.int .i64 ax] ((.agg #[(.int .i64 0),(.int .i64 0),(.int .i64 0)])) 24 st Tryz.underlying30 ?_ (hl:=by have:=a6.out;omega) (hp:=k43_mkM _ _ _ _);clear st cl;intro P41 q41 w_ st;have cl:=cl_ st;refine hK.out _ _ st.en (fun hs=>?_);clear hK K;refine nr_ 41 ?_;refine pv_ 12 ?_;refine done_ (done_of HT_.out (by kernel_rfl)) ?_;all_goals (try go_wp2)));go_meet
     case rel=>exact ⟨_,((am++[(⟨0,aw,ax⟩:S43)])),P41,q41,tx_,H',⟨by have:=HJ2.out;first|omega|exact Nat.le_refl _⟩,(st.lp P41 (am++[(⟨0,aw,ax⟩:S43)])).en⟩
    ·
     rw [if_neg c9] at H;have aH:((aa.length:Int) == 3)=false:=beq_eq_false_iff_ne.mpr c9;have a5:((aa.length:Int) != 3)=true:=bne_iff_ne.mpr c9;(first|rw [aH]|(simp only [i64_w,i32_w];rw [aH])|skip);have H':=A_ H;clear H;go_wp2;go_meet
     case rel=>exact ⟨_,(am),aG,aM,tx_,H',⟨by have:=HJ2.out;first|omega|exact Nat.le_refl _⟩,(st.lp aG am).en⟩
   case rest =>
    clear HC8 st cl;obtain ⟨kq,ah,aE,aF,rfl,HA,HJ7,st⟩:=hcut;have cl:=cl_ st
    cases kq with
    |zero=>exact absurd HA.out (by simp [spec_ReadDeed.j1])
    |succ kj7 =>
     have H:=HA.out;clear HA;simp only [spec_ReadDeed.j1] at H;have H':=A_ H;clear H;go_wp2
     go_loopg [7] kj7 (fun kq v7 w'=>∃(al:Int) (ai:Int) (aj:Int) (ak:Int),v7=.int .i64 al∧Aside0 (spec_ReadDeed.l0 kq a0 ah al=some (r1,r2,r3,r4))∧Aside0 (kq≤kj7)∧ST w [AR k43 43 w.heap.size (.slice aE ah.length aF) ah] [Bx g2 #[.int .i64 ai,.int .i64 aj,.int .i64 ak] 43] w')
     case atStart=>exact ⟨(0),(0),(0),(0),tx_,H',⟨Nat.le_refl _⟩,st.en⟩
     case round =>
      clear H' st cl;obtain ⟨al,ai,aj,ak,rfl,HA,HK3,st⟩:=hrel;have cl:=cl_ st
      cases gk with
      |zero=>exact absurd HA.out (by simp [spec_ReadDeed.l0])
      |succ k3 =>
       have H:=HA.out;clear HA;simp only [spec_ReadDeed.l0] at H;replace H:=it_ H;rcases H with ⟨a7,H⟩|⟨a7,H⟩
       ·
        by_cases c15:a0.toList=([]:List UInt8)
        ·
         rw [if_pos c15] at H;have a8:(a0.toList == ([]:List UInt8))=true:=beq_iff_eq.mpr c15;have a9:(a0.toList != ([]:List UInt8))=false:=bne_eq_false_iff_eq.mpr c15;clear c15;have H':=A_ H;clear H;exact spec_ReadDeed.z1
        ·
         rw [if_neg c15] at H;have a8:(a0.toList == ([]:List UInt8))=false:=beq_eq_false_iff_ne.mpr c15;have a9:(a0.toList != ([]:List UInt8))=true:=bne_iff_ne.mpr c15;replace H:=in_ H;obtain ⟨br,H⟩:=H;obtain ⟨ay,A_55,H⟩:=bnd_ H;by_cases c17:ay.toList=a0.toList
         ·
          rw [if_pos c17] at H;have bb:(ay.toList == a0.toList)=true:=beq_iff_eq.mpr c17;have bc:(ay.toList != a0.toList)=false:=bne_eq_false_iff_eq.mpr c17;clear c17;obtain ⟨rfl,rfl,rfl,rfl⟩:=sj4_ H;exact spec_ReadDeed.z1
         ·
          rw [if_neg c17] at H;have bb:(ay.toList == a0.toList)=false:=beq_eq_false_iff_ne.mpr c17;have bc:(ay.toList != a0.toList)=true:=bne_iff_ne.mpr c17;have H':=A_ H;clear H;exact spec_ReadDeed.z1
       ·
        obtain ⟨rfl,rfl,rfl,rfl⟩:=sj4_ H;exact spec_ReadDeed.z1
def spec_ReadJournal.l0:Nat→ByteArray→List (S43)→Int→Int→Option ((List (S43))×Int)
 |0,_,_,_,_=>none
 |k+1,x0,x4,x5,x6=>if x6<(x0.size:Int) then (if 0≤x6 then (if (bt x0 x6)=10 then (if 0≤x5 then (if x5≤x6 then (if x6≤(x0.size:Int) then ((spec_ReadDeed.f k (x0.extract (x5:Int).toNat (x6:Int).toNat)).bind fun aA=>(if aA.2.2.2=true then (if x4.length<5864062014805 then (spec_ReadJournal.l0 k x0 (x4++[(⟨aA.1,aA.2.1,aA.2.2.1⟩:S43)]) (wrap64 (x6+1)) (wrap64 (x6+1))) else (none)) else (some (x4,x5)))) else (none)) else (none)) else (none)) else (spec_ReadJournal.l0 k x0 x4 x5 (wrap64 (x6+1)))) else (none)) else (some (x4,x5))
def spec_ReadJournal.f (k:Nat) (a0:ByteArray):Option ((List (S43))×Int):=spec_ReadJournal.l0 k a0 (([]:List (S43))) 0 0
theorem spec_ReadJournal.z0 {P_:Prop} (h_:P_:=by go_wp2_with (first|((with_reducible refine gate_callee (f:=88) rfl ?_);refine ca_ (some 25) Tryz.func88 _ (spec_ReadDeed.calls k1 _ _ _ _ _ _ A_25.out) ?_;rintro e w_ ⟨rfl,hb⟩;refine ⟨_,rfl,?_⟩;replace st:=st.ev hb;clear cl hb;have cl:=cl_ st)|((with_reducible refine gate_dst (N:=7) rfl ?_);refine al_ st ?_;clear st cl;intro g7 w_ st;have cl:=cl_ st)|((with_reducible refine gate_store (p:=7) rfl ?_);refine so3_ st ?_;clear st cl;intro w_ st;have cl:=cl_ st)|((with_reducible refine gate_dst (N:=35) rfl ?_);refine ap_ aI an (⟨aO,aP,aQ⟩:S43) [.int .i64 aO,.int .i64 aP,.int .i64 aQ] ((.agg #[(.int .i64 0),(.int .i64 0),(.int .i64 0)])) 24 st Tryz.underlying30 ?_ (hl:=by have:=bd.out;omega) (hp:=k43_mkM _ _ _ _);clear st cl;intro P35 q35 w_ st;have cl:=cl_ st));first|(go_roundg k1;(case measure=>have:=HK1.out;omega);(case rel=>exact ⟨((an++[(⟨aO,aP,aQ⟩:S43)])),(wrap64 (ad+1)),(wrap64 (ad+1)),P35,q35,tx_,tx_,tx_,H',⟨by have:=HK1.out;omega⟩,st.en⟩))|(go_ret2;exact ⟨.slice aI an.length aJ,tw_,gtl_ st,st.b⟩)|(go_roundg k1;(case measure=>have:=HK1.out;omega);(case rel=>exact ⟨(an),(av),(wrap64 (ad+1)),aI,aJ,tx_,tx_,tx_,H',⟨by have:=HK1.out;omega⟩,st.en⟩))):P_:=h_
theorem spec_ReadJournal.calls (k:Nat) (a0:ByteArray) (r1:List (S43)) (r2:Int) (w:World) (h:spec_ReadJournal.f k a0=some (r1,r2)) :
  Calls Tryz.prog 50 #[.string a0] w fun e w'=>∃v0_:Value,e=.returned (.tuple #[v0_,.int .i64 r2])∧Kd.R k43 43 w' w.heap.size (fun _=>True) v0_ r1∧Below w.heap.size w w':=by
 have hu43:=Tryz.underlying43;have st:=ST.nil w;have s0:=st;have cl:=cl_ st;have H:=h;clear h;unfold spec_ReadJournal.f at H;go_enter Tryz.func50,Tryz.ntmps50;have H':=A_ H;clear H;go_wp2_with (first|((with_reducible refine gate_dst (N:=9) rfl ?_);refine nwl_ k43 43 (([]:List (S43)):List (S43)) [] st ?_ (hrep:=by repeat (first|exact Reps.none _ _|refine Reps.c3 (k43_mkM _ _ _ _) ?_));clear st cl;intro B9_0 d9_0 w_ st;have cl:=cl_ st))
 go_loopg [4,5,6] k (fun kq v4 v5 v6 w'=>∃(an:List (S43)) (av:Int) (ad:Int) (aI:Option Addr) (aJ:Nat),v4=.slice aI an.length aJ∧v5=.int .i64 av∧v6=.int .i64 ad∧Aside0 (spec_ReadJournal.l0 kq a0 an av ad=some (r1,r2))∧Aside0 (kq≤k)∧ST w [] [AR k43 43 w.heap.size (.slice aI an.length aJ) an] w')
 case atStart=>exact ⟨(([]:List (S43))),(0),(0),B9_0,d9_0,tx_,tx_,tx_,H',⟨Nat.le_refl _⟩,st.en⟩
 case round =>
  clear H' st cl;obtain ⟨an,av,ad,aI,aJ,rfl,rfl,rfl,HA,HK1,st⟩:=hrel;have cl:=cl_ st
  cases gk with
  |zero=>exact absurd HA.out (by simp [spec_ReadJournal.l0])
  |succ k1 =>
   have H:=HA.out;clear HA;simp only [spec_ReadJournal.l0] at H;replace H:=it_ H;rcases H with ⟨aR,H⟩|⟨aR,H⟩
   ·
    replace H:=in_ H;obtain ⟨az,H⟩:=H;have y5a:(0≤(ad:Int))=True:=eq_true (by first|exact od_|omega);have y5b:((ad:Int)<(a0.size:Int))=True:=eq_true (by first|exact od_|omega);have y5x:=bt_at a0 ad;by_cases c6:(bt a0 ad)=10
    ·
     rw [if_pos c6] at H;have bj:((bt a0 ad) == 10)=true:=beq_iff_eq.mpr c6;have bk:((bt a0 ad) != 10)=false:=bne_eq_false_iff_eq.mpr c6;clear c6;replace H:=i0_ H;obtain ⟨c7,H⟩:=H;have bv:=eq_true c7;have bw:decide (0≤av)=true:=decide_eq_true c7;clear c7;replace H:=i0_ H;obtain ⟨c8,H⟩:=H;have bx:=eq_true c8;have bz:decide (av≤ad)=true:=decide_eq_true c8;clear c8;replace H:=i0_ H;obtain ⟨c9,H⟩:=H;have aH:=eq_true c9;have a5:decide (ad≤(a0.size:Int))=true:=decide_eq_true c9;clear c9;obtain ⟨⟨aO,aP,aQ,bl⟩,A_25,H⟩:=bnd_ H;(try dsimp only at H);rcases bx_ bl with rfl|rfl
     ·
      replace H:=bt_ H;replace H:=il_ H;obtain ⟨bd,H⟩:=H;have H':=A_ H;clear H;exact spec_ReadJournal.z0
     ·
      replace H:=bf_ H;obtain ⟨rfl,rfl⟩:=sj2_ H;exact spec_ReadJournal.z0
    ·
     rw [if_neg c6] at H;have bj:((bt a0 ad) == 10)=false:=beq_eq_false_iff_ne.mpr c6;have bk:((bt a0 ad) != 10)=true:=bne_iff_ne.mpr c6;have H':=A_ H;clear H;exact spec_ReadJournal.z0
   ·
    obtain ⟨rfl,rfl⟩:=sj2_ H;exact spec_ReadJournal.z0
def spec_DeskOk.l0:Nat→Int→List Int→Int→List Int→List (S35)→Option (Bool)
 |0,_,_,_,_,_=>none
 |k+1,x3,aB,aC,aD,ae=>if x3<(ae.length:Int) then (if 0≤x3 then ((spec_PlaceOk.f k ((rd_T35 ae x3).f0) ((rd_T35 ae x3).f1) ((rd_T35 ae x3).f2)).bind fun aU=>(if aU=true then (spec_DeskOk.l0 k (wrap64 (x3+1)) aB aC aD ae) else (some false))) else (none)) else ((spec_PlaceOk.f k aB aC aD).bind fun aV=>(if aV=true then (some (decide ((ae.length:Int)≤8))) else (some false)))
def spec_DeskOk.f (k:Nat) (ab:List Int) (a0_1:Int) (ac:List Int) (af:List (S35)):Option (Bool):=spec_DeskOk.l0 k 0 ab a0_1 ac af
theorem spec_DeskOk.z0 {P_:Prop} (h_:P_:=by go_wp2_with (first|((with_reducible refine gate_dst (N:=14) rfl ?_);obtain ⟨p_,q_,ad_,aW,aX,aY,aZ,e_,x0,x1,x2,l0_,C0_,l2_,C2_⟩:=a2_ (at_T35 (gC_ s0 k35 aK af) ao);replace x0:=cb_ st x0;replace x1:=cb_ st x1;replace x2:=cb_ st x2;replace st:=st.c C0_ l0_;replace st:=st.c C2_ l2_;have ix_:=ix3_ Tryz.underlying36 e_ p_ q_ (c:=aL);clear e_;go_step)|((with_reducible refine gate_callee (f:=94) rfl ?_);refine ca_ (some 16) Tryz.func94 _ (spec_PlaceOk.calls k1 aW aX _ _ aY aZ _ _ _ (gt_ st) (gt_ st) (gt_ st) (gt_ st) A_16.out) ?_;rintro e w_ ⟨rfl,hb⟩;refine ⟨_,rfl,?_⟩;replace st:=st.ev hb;clear cl hb;have cl:=cl_ st)|((with_reducible refine gate_callee (f:=94) rfl ?_);refine ca_ (some 20) Tryz.func94 _ (spec_PlaceOk.calls k1 ap aq _ _ ar au _ _ _ (gt_ st) (gt_ st) (gt_ st) (gt_ st) A_20.out) ?_;rintro e w_ ⟨rfl,hb⟩;refine ⟨_,rfl,?_⟩;replace st:=st.ev hb;clear cl hb;have cl:=cl_ st));first|(go_roundg k1;(case measure=>have:=HK1.out;omega);(case rel=>exact ⟨(wrap64 (ao+1)),tx_,H',⟨by have:=HK1.out;omega⟩,st.en⟩))|(go_ret;exact ⟨tw_,st.b⟩)):P_:=h_
theorem spec_DeskOk.calls (k:Nat) (ap:Option Addr) (aq:Nat) (ab:List Int) (a0_1:Int) (ar:Option Addr) (au:Nat) (ac:List Int) (aK:Option Addr) (aL:Nat) (af:List (S35)) (r:Bool) (w:World) (hr0_0:Kd.C (Kd.int .i64) w ap ab.length ab) (hc0_0:ab.length≤aq) (hr0_2:Kd.C (Kd.int .i64) w ar ac.length ac) (hc0_2:ac.length≤au) (hr0_3:Kd.C k35 w aK af.length af) (hc0_3:af.length≤aL) (h:spec_DeskOk.f k ab a0_1 ac af=some r) :
  Calls Tryz.prog 97 #[.agg #[.slice ap ab.length aq,.int .i64 a0_1,.slice ar ac.length au,.slice aK af.length aL]] w fun e w'=>e=.returned (.bool r)∧Below w.heap.size w w':=by
 have hu38:=Tryz.underlying38;have hu35:=Tryz.underlying35;have st:=(((ST.nil w).c hr0_0 hc0_0).c hr0_2 hc0_2).c hr0_3 hc0_3;have s0:=st;have cl:=cl_ st;have H:=h;clear h;unfold spec_DeskOk.f at H;go_enter Tryz.func97,Tryz.ntmps97;have H':=A_ H;clear H;go_wp2_with (first|((with_reducible refine gate_dst (N:=1) rfl ?_);refine al_ st ?_;clear st cl;intro g1 w_ st;have cl:=cl_ st))
 go_loopg [3] k (fun kq v3 w'=>∃(ao:Int),v3=.int .i64 ao∧Aside0 (spec_DeskOk.l0 kq ao ab a0_1 ac af=some r)∧Aside0 (kq≤k)∧ST w [CA (Kd.int .i64) w ap ab aq,CA (Kd.int .i64) w ar ac au,CA k35 w aK af aL] [Bx g1 #[.slice ap ab.length aq,.int .i64 a0_1,.slice ar ac.length au,.slice aK af.length aL] 38] w')
 case atStart=>exact ⟨(0),tx_,H',⟨Nat.le_refl _⟩,st.en⟩
 case round =>
  clear H' st cl;obtain ⟨ao,rfl,HA,HK1,st⟩:=hrel;have cl:=cl_ st
  cases gk with
  |zero=>exact absurd HA.out (by simp [spec_DeskOk.l0])
  |succ k1 =>
   have H:=HA.out;clear HA;simp only [spec_DeskOk.l0] at H;replace H:=it_ H;rcases H with ⟨aR,H⟩|⟨aR,H⟩
   ·
    replace H:=in_ H;obtain ⟨az,H⟩:=H;obtain ⟨aU,A_16,H⟩:=bnd_ H;rcases bx_ aU with rfl|rfl
    ·
     replace H:=bt_ H;have H':=A_ H;clear H;exact spec_DeskOk.z0
    ·
     replace H:=bf_ H;obtain rfl:=Option.some.inj H;exact spec_DeskOk.z0
   ·
    obtain ⟨aV,A_20,H⟩:=bnd_ H;rcases bx_ aV with rfl|rfl
    ·
     replace H:=bt_ H;obtain rfl:=Option.some.inj H;exact spec_DeskOk.z0
    ·
     replace H:=bf_ H;obtain rfl:=Option.some.inj H;exact spec_DeskOk.z0
def spec_l15Place.f (ab:List Int) (a0_1:Int) (ac:List Int):Option (List Int×Int×List Int):=(some (([]:List Int):List Int)).bind fun be=>(if be.length+ab.length<17592186044416 then ((some (([]:List Int):List Int)).bind fun bf=>(if bf.length+ac.length<17592186044416 then (some ((be++ab),a0_1,(bf++ac))) else (none))) else (none))
def spec_l15Place.T1:Bool×List (List Nat×List Nat):=(true,[([],[]),([],[]),([1],[1]),([0,2],[0,2]),([],[]),([4],[4]),([],[]),([],[]),([7],[7]),([6,8,3],[6,8]),([3,5,9],[3,5,9]),([10,9,0,1,2,3,4,5,6,7,8,9,10],[10])])
def spec_l15Place.B1:List Nat:=[0,0,2,7,0,16,0,0,128,463,1023,2047]
theorem spec_l15Place.tab1:rtab .any (opsOf Tryz.f123 1)=spec_l15Place.T1:=by kernel_rfl
theorem spec_l15Place.bits1:waitsOk spec_l15Place.T1.2 spec_l15Place.B1=true:=by kernel_rfl
theorem spec_l15Place.n0 {P_:Prop} (h_:P_:=by refine ov_ 9 (fun K hK=>?_);refine apr02_ B9_0 ac ar au ((.int .i64 0)) 8 st Tryz.underlying33 (gt_ st) ?_ (hl:=by have:=bm.out;simp only [List.length_nil] at this;omega);clear st cl;intro P12 q12 w_ st;have cl:=cl_ st;refine hK.out _ _ st.en (fun hs=>?_);clear hK K;refine nr_ 12 ?_;refine pv_ 10 ?_;refine lv_ 11 (fun K hK=>?_);refine sp3_ st ?_;clear st cl;intro w_ st;have cl:=cl_ st;refine hK.out _ _ ?_;clear hK K;refine done_ (done_of HT_.out (by kernel_rfl)) ?_;(try go_wp2_with (first|((with_reducible refine gate_dst (N:=1) rfl ?_);refine al_ st ?_;clear st cl;intro g1 w_ st;have cl:=cl_ st)|((with_reducible refine gate_dst (N:=2) rfl ?_);refine al_ st ?_;clear st cl;intro g2 w_ st;have cl:=cl_ st)));(refine bodyPost_ret (rcc_ st Tryz.underlying35) rfl ?_;exact ⟨.slice P6 ab.length q6,.slice P12 ac.length q12,tw_,(tap_ st P6 ab P12 ac).1,(tap_ st P6 ab P12 ac).2,st.b⟩)):P_:=h_
theorem spec_l15Place.n1 {P_:Prop} (h_:P_:=by refine ov_ 3 (fun K hK=>?_);refine apr02_ B3_0 ab ap aq ((.int .i64 0)) 8 st Tryz.underlying33 (gt_ st) ?_ (hl:=by have:=bg.out;simp only [List.length_nil] at this;omega);clear st cl;intro P6 q6 w_ st;have cl:=cl_ st;refine hK.out _ _ st.en (fun hs=>?_);clear hK K;refine nr_ 6 ?_;exact spec_l15Place.n0):P_:=h_
theorem spec_l15Place.calls (ap:Option Addr) (aq:Nat) (ab:List Int) (a0_1:Int) (ar:Option Addr) (au:Nat) (ac:List Int) (r1:List Int) (r2:Int) (r3:List Int) (w:World) (hr0_0:Kd.C (Kd.int .i64) w ap ab.length ab) (hc0_0:ab.length≤aq) (hr0_2:Kd.C (Kd.int .i64) w ar ac.length ac) (hc0_2:ac.length≤au) (h:spec_l15Place.f ab a0_1 ac=some (r1,r2,r3)) :
  Calls Tryz.prog 123 #[.agg #[.slice ap ab.length aq,.int .i64 a0_1,.slice ar ac.length au]] w fun e w'=>∃v0_ v2_:Value,e=.returned (.agg #[v0_,.int .i64 r2,v2_])∧Kd.R (Kd.int .i64) 3 w' w.heap.size (fun k_=>some k_≠(v2_:Value).ownBlock) v0_ r1∧Kd.R (Kd.int .i64) 3 w' w.heap.size (fun k_=>some k_≠(v0_:Value).ownBlock) v2_ r3∧Below w.heap.size w w':=by
 have hu35:=Tryz.underlying35;have st:=((ST.nil w).c hr0_0 hc0_0).c hr0_2 hc0_2;have s0:=st;have cl:=cl_ st;have H:=h;clear h;unfold spec_l15Place.f at H;go_enter Tryz.func123,Tryz.ntmps123;replace H:=sm_ H;(try dsimp only at H);replace H:=il_ H;obtain ⟨bg,H⟩:=H;(try simp only [List.nil_append] at H);replace H:=sm_ H;(try dsimp only at H);replace H:=il_ H;obtain ⟨bm,H⟩:=H;(try simp only [List.nil_append] at H);obtain ⟨rfl,rfl,rfl⟩:=sj3_ H;(try go_wp2_with (first|((with_reducible refine gate_dst (N:=1) rfl ?_);refine al_ st ?_;clear st cl;intro g1 w_ st;have cl:=cl_ st)|((with_reducible refine gate_dst (N:=2) rfl ?_);refine al_ st ?_;clear st cl;intro g2 w_ st;have cl:=cl_ st)));(refine rg_ st [11] ?_;clear st cl;intro w_ st hs;have cl:=cl_ st;refine with_tabW spec_l15Place.tab1 spec_l15Place.bits1 (fun HT_ HW_=>?_);refine pv_ 1 ?_;refine pv_ 4 ?_;refine pv_ 7 ?_;refine tu_ 2 ?_;refine tu_ 5 ?_;refine tu_ 8 ?_;refine wv_ 0 6 (fun K hK=>?_) (fun K hK=>?_);refine nwl2_ (Kd.int .i64) 3 (([]:List Int):List Int) [] st ?_;clear st cl;intro B3_0 d3_0 w_ st;have cl:=cl_ st;refine hK.out _ _ st.en (fun hs=>?_);clear hK K;refine nr_ 3 ?_;refine wv_ 3 6 (fun K hK=>?_) (fun K hK=>?_);refine apr02_ B3_0 ab ap aq ((.int .i64 0)) 8 st Tryz.underlying33 (gt_ st) ?_ (hl:=by have:=bg.out;simp only [List.length_nil] at this;omega);clear st cl;intro P6 q6 w_ st;have cl:=cl_ st;refine hK.out _ _ st.en (fun hs=>?_);clear hK K;refine nr_ 6 ?_;refine ov_ 6 (fun K hK=>?_);refine nwl2_ (Kd.int .i64) 3 (([]:List Int):List Int) [] st ?_;clear st cl;intro B9_0 d9_0 w_ st;have cl:=cl_ st;refine hK.out _ _ st.en (fun hs=>?_);clear hK K;refine nr_ 9 ?_;exact spec_l15Place.n0;refine nwl2_ (Kd.int .i64) 3 (([]:List Int):List Int) [] st ?_;clear st cl;intro B9_0 d9_0 w_ st;have cl:=cl_ st;refine hK.out _ _ st.en (fun hs=>?_);clear hK K;refine nr_ 9 ?_;exact spec_l15Place.n1;refine nwl2_ (Kd.int .i64) 3 (([]:List Int):List Int) [] st ?_;clear st cl;intro B9_0 d9_0 w_ st;have cl:=cl_ st;refine hK.out _ _ st.en (fun hs=>?_);clear hK K;refine nr_ 9 ?_;refine ov_ 0 (fun K hK=>?_);refine nwl2_ (Kd.int .i64) 3 (([]:List Int):List Int) [] st ?_;clear st cl;intro B3_0 d3_0 w_ st;have cl:=cl_ st;refine hK.out _ _ st.en (fun hs=>?_);clear hK K;refine nr_ 3 ?_;exact spec_l15Place.n1)
end Go.Proofs.YtopboabeigakoaaGreatDoor.MFnStoreOpen
