/- For the law FnStoreNever: walks of the functions that it reaches: each call returns what the plain function beside it tells. The conditions stand in each statement. -/
import Derived.Test.YtopboabeigakoaaGreatDoorV
import Derived.Test.YtopboabeigakoaaGreatDoorMFnStoreNeverx0
import Derived.Test.YtopboabeigakoaaGreatDoorMFnStoreNeverx8
import Derived.Test.YtopboabeigakoaaGreatDoorMFnStoreNeverx9
namespace Go.Proofs.YtopboabeigakoaaGreatDoor.MFnStoreNever
open Go.RowKit Go.Proofs.YtopboabeigakoaaGreatDoorW.PrintWords Go.Proofs.YtopboabeigakoaaGreatDoorW.PrintLast Go.Proofs.YtopboabeigakoaaGreatDoorW.PrintMore
attribute [local go_sem] max2_int min2_int max_two min_two max_three min_three max_four min_four   -- for this text's walks alone
set_option linter.unusedVariables false
set_option linter.unusedSimpArgs false
set_option maxHeartbeats 8000000
set_option maxRecDepth 100000
mutual
def spec_AfterWord.j0:Nat→List Int→List (List Int)→List Int→Bool→Option (List Int×Bool)
 |0,_,_,_,_=>none
 |k+1,x0,x1,x2,x26=>if x26=true then (some ((([]:List Int)),false)) else ((some (([]:List Int):List Int)).bind fun a7=>(if a7.length+x0.length<17592186044416 then (spec_AfterWord.l0 k x1 x2 (a7++x0) 0) else (none)))
def spec_AfterWord.l0:Nat→List (List Int)→List Int→List Int→Int→Option (List Int×Bool)
 |0,_,_,_,_=>none
 |k+1,x1,x2,x8,x9=>if x9<(x2.length:Int) then (if 0≤x9 then (if 0≤(rd x2 x9) then (if (rd x2 x9)<(x8.length:Int) then (if (rd x8 (rd x2 x9))<1 then (some ((([]:List Int)),false)) else ((spec_l4After.f k x8 x1 (rd x2 x9)).bind fun aX=>(spec_AfterWord.l0 k x1 x2 aX (wrap64 (x9+1))))) else (none)) else (none)) else (none)) else (some (x8,true))
end
def spec_AfterWord.f (k:Nat) (l0:List Int) (l1:List (List Int)) (l2:List Int):Option (List Int×Bool):=(spec_StartOk.f k l0).bind fun aY=>(if aY=true then ((spec_RuleOk.f k (l0.length:Int) l1).bind fun aZ=>(if aZ=true then ((spec_WordOk.f k (l0.length:Int) l2).bind fun a3=>(spec_AfterWord.j0 k l0 l1 l2 (!a3))) else (spec_AfterWord.j0 k l0 l1 l2 true))) else (spec_AfterWord.j0 k l0 l1 l2 true))
theorem spec_AfterWord.z0 {P_:Prop} (h_:P_:=by go_wp2_with (first|((with_reducible refine gate_callee (f:=119) rfl ?_);refine ca_ (some 11) Tryz.func119 _ (spec_StartOk.calls k A0 c0 _ _ _ (gt_ st) (gt_ st) A_11.out) ?_;rintro e w_ ⟨rfl,hb⟩;refine ⟨_,rfl,?_⟩;replace hb:=hb.below;replace st:=st.ev hb;clear cl hb;have cl:=cl_ st)|((with_reducible refine gate_callee (f:=143) rfl ?_);refine gate_guard (by rfl) ?_;dsimp only;refine ca_ (some 17) Tryz.func143 _ (spec_RuleOk.calls k _ A1 c1 _ _ _ (gt_ st) (gt_ st) A_17.out) ?_;rintro e w_ ⟨rfl,hb⟩;refine ⟨_,rfl,?_⟩;replace hb:=hb.below;replace st:=st.ev hb;clear cl hb;have cl:=cl_ st)|((with_reducible refine gate_callee (f:=144) rfl ?_);refine gate_guard (by rfl) ?_;dsimp only;refine ca_ (some 24) Tryz.func144 _ (spec_WordOk.calls k _ A2 c2 _ _ _ (gt_ st) (gt_ st) A_24.out) ?_;rintro e w_ ⟨rfl,hb⟩;refine ⟨_,rfl,?_⟩;replace hb:=hb.below;replace st:=st.ev hb;clear cl hb;have cl:=cl_ st));first|(go_meet;(case rel=>exact ⟨_,(!a3),tx_,H',⟨by first|omega|exact Nat.le_refl _⟩,st.en⟩))|(go_meet;(case rel=>exact ⟨_,(true),tx_,H',⟨by first|omega|exact Nat.le_refl _⟩,st.en⟩))):P_:=h_
theorem spec_AfterWord.z1 {P_:Prop} (h_:P_:=by go_wp2_with (first|((with_reducible refine gate_dst (N:=40) rfl ?_);obtain ⟨p_,q_,ad_,e_,x0⟩:=a2_ (Kd.at_int (gC_ st (Kd.int .i64) A2 l2) ac);have ix_:=ix1_ Tryz.underlying33 e_ p_ q_ (c:=c2);clear e_;go_step)|((with_reducible refine gate_dst (N:=42) rfl ?_);obtain ⟨p_,q_,ad_,e_,x0⟩:=a2_ (Kd.at_int (gC_ st (Kd.int .i64) aq aj) (rd l2 ac));have ix_:=ix1_ Tryz.underlying33 e_ p_ q_ (c:=ar);clear e_;go_step)|((with_reducible refine gate_dst (N:=45) rfl ?_);refine nw_ (Kd.int .i64) 3 (([]:List Int):List Int) [] st ?_;clear st cl;intro B45_0 d45_0 w_ st;have cl:=cl_ st)|((with_reducible refine gate_dst (N:=50) rfl ?_);obtain ⟨p_,q_,ad_,e_,x0⟩:=a2_ (Kd.at_int (gC_ st (Kd.int .i64) A2 l2) ac);have ix_:=ix1_ Tryz.underlying33 e_ p_ q_ (c:=c2);clear e_;go_step)|((with_reducible refine gate_callee (f:=145) rfl ?_);refine ca_ (some 52) Tryz.func145 _ (spec_l4After.calls k2 aq ar _ A1 c1 _ _ _ _ (gt_ st) (gt_ st) (gt_ st) (gt_ st) A_52.out) ?_;rintro e w_ ⟨v0,rfl,h0,hb⟩;refine ⟨_,rfl,?_⟩;obtain ⟨B52_0,d52_0,rfl⟩:=Kd.R_slice h0;replace st:=st.p1 hb (st.mr h0);clear cl hb h0;have cl:=cl_ st));first|(go_ret2;exact ⟨.slice B45_0 ([]:List Int).length d45_0,tw_,gt_ st,st.b⟩)|(go_roundg k2;(case measure=>have:=HJ4.out;have:=HK2.out;omega);(case rel=>exact ⟨(aX),(wrap64 (ac+1)),B52_0,d52_0,tx_,tx_,H',⟨by have:=HJ4.out;have:=HK2.out;omega⟩,st.en⟩))|(go_ret2;exact ⟨.slice aq aj.length ar,tw_,gt_ st,st.b⟩)):P_:=h_
theorem spec_AfterWord.calls (k:Nat) (A0:Option Addr) (c0:Nat) (l0:List Int) (A1:Option Addr) (c1:Nat) (l1:List (List Int)) (A2:Option Addr) (c2:Nat) (l2:List Int) (r1:List Int) (r2:Bool) (w:World) (hr0:Kd.C (Kd.int .i64) w A0 l0.length l0) (hc0:l0.length≤c0) (hr1:Kd.C (Kd.slice 3 (Kd.int .i64)) w A1 l1.length l1) (hc1:l1.length≤c1) (hr2:Kd.C (Kd.int .i64) w A2 l2.length l2) (hc2:l2.length≤c2) (h:spec_AfterWord.f k l0 l1 l2=some (r1,r2)) :
  Calls Tryz.prog 120 #[.slice A0 l0.length c0,.slice A1 l1.length c1,.slice A2 l2.length c2] w fun e w'=>∃v0_:Value,e=.returned (.tuple #[v0_,.bool r2])∧Kd.R (Kd.int .i64) 3 w' w.heap.size (fun _=>True) v0_ r1∧Below w.heap.size w w':=by
 have st:=(((ST.nil w).c hr0 hc0).c hr1 hc1).c hr2 hc2;have s0:=st;have cl:=cl_ st;have H:=h;clear h;unfold spec_AfterWord.f at H;go_enter Tryz.func120,Tryz.ntmps120;have HC5:=A_ H;clear H
 go_upto_region 1 with (fail)
 go_cut [26] (fun bC wc=>∃(kq:Nat) (am:Bool),bC=.bool am∧Aside0 (spec_AfterWord.j0 kq l0 l1 l2 am=some (r1,r2))∧Aside0 (kq≤k)∧ST w [CA (Kd.int .i64) w A0 l0 c0,CA (Kd.slice 3 (Kd.int .i64)) w A1 l1 c1,CA (Kd.int .i64) w A2 l2 c2] [] wc)
 case first =>
  have H:=HC5.out;clear HC5;obtain ⟨aY,A_11,H⟩:=bnd_ H;rcases bx_ aY with rfl|rfl
  ·
   replace H:=bt_ H;obtain ⟨aZ,A_17,H⟩:=bnd_ H;rcases bx_ aZ with rfl|rfl
   ·
    replace H:=bt_ H;obtain ⟨a3,A_24,H⟩:=bnd_ H;have H':=A_ H;clear H;exact spec_AfterWord.z0
   ·
    replace H:=bf_ H;have H':=A_ H;clear H;exact spec_AfterWord.z0
  ·
   replace H:=bf_ H;have H':=A_ H;clear H;exact spec_AfterWord.z0
 case rest =>
  clear HC5 st cl;obtain ⟨kq,am,rfl,HA,HJ4,st⟩:=hcut;have cl:=cl_ st
  cases kq with
  |zero=>exact absurd HA.out (by simp [spec_AfterWord.j0])
  |succ kj4 =>
   have H:=HA.out;clear HA;simp only [spec_AfterWord.j0] at H;rcases bx_ am with rfl|rfl
   ·
    replace H:=bt_ H;obtain ⟨rfl,rfl⟩:=sj2_ H;go_wp2_with (first|((with_reducible refine gate_dst (N:=27) rfl ?_);refine nw_ (Kd.int .i64) 3 (([]:List Int):List Int) [] st ?_;clear st cl;intro B27_0 d27_0 w_ st;have cl:=cl_ st));go_ret2;exact ⟨.slice B27_0 ([]:List Int).length d27_0,tw_,gt_ st,st.b⟩
   ·
    replace H:=bf_ H;replace H:=sm_ H;(try dsimp only at H);replace H:=il_ H;obtain ⟨bo,H⟩:=H;(try simp only [List.nil_append] at H);have H':=A_ H;clear H;go_wp2_with (first|((with_reducible refine gate_dst (N:=28) rfl ?_);refine nwl_ (Kd.int .i64) 3 (([]:List Int):List Int) [] st ?_;clear st cl;intro B28_0 d28_0 w_ st;have cl:=cl_ st)|((with_reducible refine gate_dst (N:=30) rfl ?_);refine apr0_ B28_0 l0 A0 c0 ((.int .i64 0)) 8 st Tryz.underlying33 (gt_ st) ?_ (hl:=by have:=bo.out;simp only [List.length_nil] at this;omega);clear st cl;intro P30 q30 w_ st;have cl:=cl_ st))
    go_loopg [8,9] kj4 (fun kq v8 v9 w'=>∃(aj:List Int) (ac:Int) (aq:Option Addr) (ar:Nat),v8=.slice aq aj.length ar∧v9=.int .i64 ac∧Aside0 (spec_AfterWord.l0 kq l1 l2 aj ac=some (r1,r2))∧Aside0 (kq≤kj4)∧ST w [CA (Kd.int .i64) w A0 l0 c0,CA (Kd.slice 3 (Kd.int .i64)) w A1 l1 c1,CA (Kd.int .i64) w A2 l2 c2,AR (Kd.int .i64) 3 w.heap.size (.slice aq aj.length ar) aj] [] w')
    case atStart=>exact ⟨(l0),(0),P30,q30,tx_,tx_,H',⟨Nat.le_refl _⟩,(st.lp P30 l0).en⟩
    case round =>
     clear H' st cl;obtain ⟨aj,ac,aq,ar,rfl,rfl,HA,HK2,st⟩:=hrel;have cl:=cl_ st
     cases gk with
     |zero=>exact absurd HA.out (by simp [spec_AfterWord.l0])
     |succ k2 =>
      have H:=HA.out;clear HA;simp only [spec_AfterWord.l0] at H;replace H:=it_ H;rcases H with ⟨a8,H⟩|⟨a8,H⟩
      ·
       replace H:=in_ H;obtain ⟨bD,H⟩:=H;replace H:=in_ H;obtain ⟨a9,H⟩:=H;replace H:=in_ H;obtain ⟨bb,H⟩:=H;replace H:=it_ H;rcases H with ⟨aR,H⟩|⟨aR,H⟩
       ·
        obtain ⟨rfl,rfl⟩:=sj2_ H;exact spec_AfterWord.z1
       ·
        obtain ⟨aX,A_52,H⟩:=bnd_ H;have H':=A_ H;clear H;exact spec_AfterWord.z1
      ·
       obtain ⟨rfl,rfl⟩:=sj2_ H;exact spec_AfterWord.z1
def spec_SameRule.l0:Nat→Int→Int→List (List Int)→Int→Option ((List (List Int)))
 |0,_,_,_,_=>none
 |k+1,x0,x1,x5,x6=>if x6<x0 then ((spec_l1In.f x0 1 3).bind fun a4=>(if a4=true then ((spec_l1In.f x1 (-1) 3).bind fun ax=>(if ax=true then (if 0≤x0 then (if (x0:Int).toNat≤35184372088832 then ((some (List.replicate (x0:Int).toNat 0:List Int)).bind fun ab=>(if 0≤x6 then (if x6<(ab.length:Int) then (if x5.length<5864062014805 then (spec_SameRule.l0 k x0 x1 (x5++[(ab.set (x6:Int).toNat x1)]) (wrap64 (x6+1))) else (none)) else (none)) else (none))) else (none)) else (none)) else (some x5))) else (some x5))) else (some x5)
def spec_SameRule.f (k:Nat) (a0:Int) (a1:Int):Option ((List (List Int))):=spec_SameRule.l0 k a0 a1 (([]:List (List Int))) 0
theorem spec_SameRule.mono_l:∀k,(∀y0 y1 y2 y3,LeO (spec_SameRule.l0 k y0 y1 y2 y3) (spec_SameRule.l0 (k+1) y0 y1 y2 y3))
 |0=>fun _ _ _ _ r h=>by simp [spec_SameRule.l0] at h
 |k+1=>by
  have ih0:=spec_SameRule.mono_l k
  ·
   intro y0 y1 y2 y3
   unfold spec_SameRule.l0
   repeat' (with_reducible first|exact ih0 _ _ _ _|exact mr_|exact mn_|refine mi_ ?_ ?_|refine mb_ ?_ (fun _=>?_))
theorem spec_SameRule.mono:∀a0 a1 k,LeO (spec_SameRule.f k a0 a1) (spec_SameRule.f (k+1) a0 a1):=by
 intro a0 a1 k;have ih0:=spec_SameRule.mono_l k;unfold spec_SameRule.f;repeat' (with_reducible first|exact ih0 _ _ _ _|exact mr_|exact mn_|refine mi_ ?_ ?_|refine mb_ ?_ (fun _=>?_))
theorem spec_SameRule.calls (k:Nat) (a0:Int) (a1:Int) (r:List (List Int)) (w:World) (h:spec_SameRule.f k a0 a1=some r) :
  Calls Tryz.prog 121 #[.int .i64 a0,.int .i64 a1] w fun e w'=>∃v0_:Value,e=.returned (v0_)∧Kd.S (Kd.slice 3 (Kd.int .i64)) 33 w' w.heap.size (fun _=>True) v0_ r∧Below w.heap.size w w':=by
 have HB:=A_ (Below.refl w.heap.size w);have H:(spec_SameRule.l0 k a0 a1 (([]:List (List Int))) 0)=some r:=h;clear h;obtain ⟨bc,ay⟩:∃y_:List (List Int),y_=(([]:List (List Int))):=⟨_,rfl⟩
 replace H:(spec_SameRule.l0 k a0 a1 bc 0)=some r:=yq_ ay H;have aU:=A_ ay;clear ay;have H':=A_ H;clear H;go_enter Tryz.func121,Tryz.ntmps121;go_wp2_with (first|((with_reducible refine gate_dst (N:=8) rfl ?_);refine Kd.S_lit (Kd.slice 3 (Kd.int .i64)) _ 33 ?hg (N:=8) ?hd (xs:=([]:List (List Int))) (inner:=[]) (ok:=fun _=>True) (okp:=fun _=>True) ?hr ?hp (fun _ hk=>hk) trivial (Below.refl _ _) (Nat.le_refl _) (by simp) ?_;(case hd=>rfl);(case hg=>rfl);(case hr=>first|(go_simp;done)|(go_simp;rfl));(case hp=>exact (Reps.none _ _));intro bE w3 ho4 hb hg_ hnew_;clear hg_ hnew_;(first|rw [←aU.out] at ho4|(simp only [Int.reduceToNat] at ho4;rw [←aU.out] at ho4));have bd:=A_ (Kd.S_lower ho4 (below_size (tb_ HB.out)));replace HB:=bs_ HB hb;clear hb ho4))
 go_loopg [5,6] k (fun kq v5 v6 w'=>∃(ad:List (List Int)) (aa:Int),v6=.int .i64 aa∧Aside0 (spec_SameRule.l0 kq a0 a1 ad aa=some r)∧Aside0 (kq≤k)∧Aside0 (Kd.S (Kd.slice 3 (Kd.int .i64)) 33 w' w.heap.size (fun _=>True) v5 ad)∧Aside0 (Below w.heap.size w w'))
 case atStart=>exact ⟨(bc),(0),tx_,H',⟨Nat.le_refl _⟩,⟨rS_ bd.out⟩,⟨(tb_ HB.out)⟩⟩
 case round =>
  clear H';obtain ⟨ad,aa,rfl,HA,HK1,af,HB⟩:=hrel
  cases gk with
  |zero=>exact absurd HA.out (by simp [spec_SameRule.l0])
  |succ k1 =>
   have H:=HA.out;clear HA;simp only [spec_SameRule.l0] at H;replace H:=it_ H;rcases H with ⟨bp,H⟩|⟨bp,H⟩
   ·
    obtain ⟨a4,A6,H⟩:=bnd_ H;(try dsimp only at H);by_cases c7:a4=true
    ·
     subst c7;replace H:((spec_l1In.f a1 (-1) 3).bind fun ax=>(if ax=true then (if 0≤a0 then (if (a0:Int).toNat≤35184372088832 then ((some (List.replicate (a0:Int).toNat 0:List Int)).bind fun ab=>(if 0≤aa then (if aa<(ab.length:Int) then (if ad.length<5864062014805 then (spec_SameRule.l0 k1 a0 a1 (ad++[(ab.set (aa:Int).toNat a1)]) (wrap64 (aa+1))) else (none)) else (none)) else (none))) else (none)) else (none)) else (some ad)))=some r:=by rw [if_pos rfl] at H;exact H
     obtain ⟨ax,A8,H⟩:=bnd_ H;(try dsimp only at H);by_cases c9:ax=true
     ·
      subst c9;replace H:(if 0≤a0 then (if (a0:Int).toNat≤35184372088832 then ((some (List.replicate (a0:Int).toNat 0:List Int)).bind fun ab=>(if 0≤aa then (if aa<(ab.length:Int) then (if ad.length<5864062014805 then (spec_SameRule.l0 k1 a0 a1 (ad++[(ab.set (aa:Int).toNat a1)]) (wrap64 (aa+1))) else (none)) else (none)) else (none))) else (none)) else (none))=some r:=by rw [if_pos rfl] at H;exact H
      replace H:=i0_ H;obtain ⟨c10,H⟩:=H;have a9:=eq_true c10;have bv:decide (0≤a0)=true:=decide_eq_true c10;clear c10;replace H:=i0_ H;obtain ⟨c11,H⟩:=H;have bb:=eq_true c11;have bw:decide ((a0:Int).toNat≤35184372088832)=true:=decide_eq_true c11;clear c11;obtain ⟨ab,az⟩:∃y_:List Int,y_=(List.replicate (a0:Int).toNat 0):=⟨_,rfl⟩
      replace H:(if 0≤aa then (if aa<(ab.length:Int) then (if ad.length<5864062014805 then (spec_SameRule.l0 k1 a0 a1 (ad++[(ab.set (aa:Int).toNat a1)]) (wrap64 (aa+1))) else (none)) else (none)) else (none))=some r:=yq_ az H;have aV:=A_ az;clear az;replace H:=in_ H;obtain ⟨aR,H⟩:=H;replace H:=in_ H;obtain ⟨bx,H⟩:=H;obtain ⟨aK,aA⟩:∃y_:List Int,y_=(ab.set (aa:Int).toNat a1):=⟨_,rfl⟩
      replace H:(if ad.length<5864062014805 then (spec_SameRule.l0 k1 a0 a1 (ad++[aK]) (wrap64 (aa+1))) else (none))=some r:=yq_ aA H;have be:=A_ aA;clear aA;replace H:=il_ H;obtain ⟨bf,H⟩:=H;obtain ⟨bg,aC⟩:∃y_:List (List Int),y_=(ad++[aK]):=⟨_,rfl⟩
      replace H:(spec_SameRule.l0 k1 a0 a1 bg (wrap64 (aa+1)))=some r:=yq_ aC H;have bh:=A_ aC;clear aC;have H':=A_ H;clear H;go_wp2_with (first|(go_at_call 69;(with_reducible refine (spec_l1In.calls a0 1 3 true _ A6.out).mono ?_);rintro e w' ⟨rfl,⟨nd,rfl⟩⟩;(try (rw [drewN_self wr];generalize hq_:World.drewN wr _=wr;have n0_:Aside0 (Kd.S (Kd.slice 3 (Kd.int .i64)) 33 wr w.heap.size (fun _=>True) u5 ad):=⟨by rw [←hq_];exact (rS_ af.out)⟩;have n1_:Aside0 (Below w.heap.size w wr):=⟨by rw [←hq_];exact (tb_ HB.out)⟩;clear af HB hq_;have af:=n0_;have HB:=n1_;clear n0_ n1_)))|(go_at_call 69;(with_reducible refine (spec_l1In.calls a1 (-1) 3 true _ A8.out).mono ?_);rintro e w' ⟨rfl,⟨nd,rfl⟩⟩;(try (rw [drewN_self wr];generalize hq_:World.drewN wr _=wr;have n0_:Aside0 (Kd.S (Kd.slice 3 (Kd.int .i64)) 33 wr w.heap.size (fun _=>True) u5 ad):=⟨by rw [←hq_];exact (rS_ af.out)⟩;have n1_:Aside0 (Below w.heap.size w wr):=⟨by rw [←hq_];exact (tb_ HB.out)⟩;clear af HB hq_;have af:=n0_;have HB:=n1_;clear n0_ n1_)))|((with_reducible refine gate_dst (N:=23) rfl ?_);refine Kd.R_make (Kd.int .i64) _ 3 rfl (N:=23) rfl 33 _ _ rfl a0 rfl rfl Tryz.underlying33 (.int .i64 0) 8 info3 rfl (by decide) (by omega) 0 (ok:=fun _=>True) (okp:=fun _=>True) rfl (fun _ hk=>hk) trivial (od_) (Nat.le_trans (Nat.mul_le_mul_right _ (od_:a0.toNat≤35184372088832)) (by omega)) (Below.refl _ _) (Nat.le_refl _) ?_;intro bF bz ho17 hb hg_ hnew_;clear hg_ hnew_;(first|rw [←aV.out] at ho17|(simp only [Int.reduceToNat] at ho17;rw [←aV.out] at ho17));replace af:=A_ (Kd.S_elder' (rS_ af.out) (Kd.R_base ho17) hb);have ai:=rx_ ho17 HB;replace HB:=bs_ HB hb;clear hb ho17;have p14:0≤(aa:Int):=od_;have q14:(aa:Int)<((ab.length:Int):Int):=od_;obtain ⟨go14,aD,bi,bj,gl14,cl14,HG14⟩:=Kd.R_form ai.out (by omega);(first|cases bi|(injection bi with ea_ en_ ec_;(first|subst ea_|(injection ea_ with ea_;subst ea_));subst ec_;clear en_));have GB14:=A_ bj;have GG14:=A_ HG14;clear bj gl14 HG14;obtain ⟨bq,hf14_0⟩:=Kd.R_celln 0 ai.out (aa:Int) p14 q14;replace p14:=eq_true p14;replace q14:=eq_true q14;obtain ⟨hy18_,hz18_⟩:=Kd.R_celln 0 ai.out (aa:Int) (od_) (od_);have HP18:=Kd.R_putg ai.out (aa:Int) a1)|((with_reducible refine gate_store (t:=3) (p:=27) rfl ?_);refine store_event (t:=3) (p:=27) (v:=?vo_w19) (w1:=(bz.setCell ⟨go14,(aa:Int).toNat,none⟩ (.int .i64 a1))) ?hg ?ho ?hn ?hr ?_;(case ho=>rfl);(case hg=>rfl);(case hn=>rfl);(case hr=>first|(go_simp;done)|(go_simp;rfl));intro br hw;have hg:bz.grownBy br (some go14):=(by rw [hw];exact HP18.2);have hp_:Kd.R (Kd.int .i64) 3 br w.heap.size (fun _=>True) (.slice (some ⟨go14,0,none⟩) ab.length aD) aK:=(by rw [hw,be.out];exact HP18.1);clear HP18;replace af:=A_ (Kd.S_after (v:=(.slice (some ⟨go14,0,none⟩) ab.length aD)) (v1:=(.slice (some ⟨go14,0,none⟩) ab.length aD)) (ok:=(fun _=>True)) (rS_ af.out) hg (.inl rfl));replace ai:=A_ (hp_);replace HB:=A_ ((by rw [hw];exact below_set (HB.out) GB14.out:Below w.heap.size w br));clear hg hw hp_)|((with_reducible refine gate_builtin (b:=.append) (xs:=#[.tmp 28,.tmp 30]) rfl ?_);at_builtin;refine Kd.S_append (Kd.slice 3 (Kd.int .i64)) (w0:=w) w.heap.size rfl (.tmp 28) (.tmp 30) 118 33 (.slice none 0 0) 24 rfl Tryz.underlying118 info33 rfl (by decide) (by omega) u5 ad aK [.slice (some ⟨go14,0,none⟩) ab.length aD] (fun _=>True) (fun k_=>some k_=(.slice (some ⟨go14,0,none⟩) ab.length aD:Value).ownBlock) rfl rfl ?aP (fun k_ hk_=>((Kd.R_mono (ok':=fun k_=>((fun _=>True)) k_∧some k_≠(u5:Value).ownBlock) (Kd.R_apart' (ai.out) (Kd.S_typed af.out) (by decide)) (fun k_ hk=>⟨trivial,hk.2⟩))).1 k_ hk_.symm) ?aF ?aO ?aB ?aS ?aL ?_;(case aP=>exact Kd.M_row (Kd.R_mono (Kd.R_tight rfl (Kd.R_mono (ok':=fun k_=>((fun _=>True)) k_∧some k_≠(u5:Value).ownBlock) (Kd.R_apart' (ai.out) (Kd.S_typed af.out) (by decide)) (fun k_ hk=>⟨trivial,hk.2⟩))) (fun _ h_=>h_)));(case aB=>exact (tb_ HB.out));(case aF=>exact (fun _ _=>trivial));(case aO=>exact (by refine qS_ ?_;exact Kd.S_mono af.out (fun k_ hk=>⟨trivial,fun e_=>hk.2 e_⟩)));(case aS=>exact (below_size (tb_ HB.out)));(case aL=>have:=bf.out;omega);intro bG bO ho hb hg hat;rw [←bh.out] at ho;replace HB:=A_ (hb);have bk:=A_ (ho);clear af ai ho hb hg hat))
      go_roundg k1
      case measure=>have:=HK1.out;omega
      case rel=>exact ⟨(bg),(wrap64 (aa+1)),tx_,H',⟨by have:=HK1.out;omega⟩,⟨rS_ bk.out⟩,⟨(tb_ HB.out)⟩⟩
     ·
      replace c9:=Bool.eq_false_iff.mpr c9;subst c9;replace H:(some ad)=some r:=by rw [if_neg (show ¬(false=true) by decide)] at H;exact H
      obtain rfl:=Option.some.inj H;go_wp2_with (first|(go_at_call 69;(with_reducible refine (spec_l1In.calls a0 1 3 true _ A6.out).mono ?_);rintro e w' ⟨rfl,⟨nd,rfl⟩⟩)|(go_at_call 69;(with_reducible refine (spec_l1In.calls a1 (-1) 3 false _ A8.out).mono ?_);rintro e w' ⟨rfl,⟨nd,rfl⟩⟩));go_ret;exact ⟨_,tw_,by refine qS_ ?_;exact af.out,(tb_ HB.out)⟩
    ·
     replace c7:=Bool.eq_false_iff.mpr c7;subst c7;replace H:(some ad)=some r:=by rw [if_neg (show ¬(false=true) by decide)] at H;exact H
     obtain rfl:=Option.some.inj H;go_wp2_with (first|(go_at_call 69;(with_reducible refine (spec_l1In.calls a0 1 3 false _ A6.out).mono ?_);rintro e w' ⟨rfl,⟨nd,rfl⟩⟩));go_ret;exact ⟨_,tw_,by refine qS_ ?_;exact af.out,(tb_ HB.out)⟩
   ·
    obtain rfl:=Option.some.inj H;go_wp2;go_ret;exact ⟨_,tw_,by refine qS_ ?_;exact af.out,(tb_ HB.out)⟩
def spec_PlaceOk.j0:Nat→Bool→List Int→Int→List Int→Option (Bool)
 |0,_,_,_,_=>none
 |k+1,x14,an,aM,aN=>if x14=true then (some false) else ((spec_SameRule.f k (an.length:Int) aM).bind fun bl=>((spec_AfterWord.f k an bl aN).bind fun bm=>(some bm.2)))
def spec_PlaceOk.f (k:Nat) (ak:List Int) (a0_1:Int) (al:List Int):Option (Bool):=(spec_StartOk.f k ak).bind fun a5=>(if a5=true then ((spec_l1In.f a0_1 (-1) 3).bind fun a6=>(spec_PlaceOk.j0 k (!a6) ak a0_1 al)) else (spec_PlaceOk.j0 k true ak a0_1 al))
def spec_PlaceOk.T3:Bool×List (List Nat×List Nat):=(true,[([],[]),([0],[0]),([],[]),([2],[2]),([3],[3]),([],[]),([5],[5]),([4,6],[4,6]),([],[]),([8],[8]),([1,7,9,7],[1,7,9]),([10],[10]),([11],[11]),([11],[11]),([12,10,0,1,2,3,4,5,6,7,8,9,10,11,12],[12]),([13,14,0,1,2,3,4,5,6,7,8,9,10,11,12,13,14],[13])])
def spec_PlaceOk.B3:List Nat:=[0,1,0,4,12,0,32,124,0,256,1023,2047,4095,4095,8191,32767]
theorem spec_PlaceOk.tab3:rtab .any (opsOf Tryz.f94 3)=spec_PlaceOk.T3:=by kernel_rfl
theorem spec_PlaceOk.bits3:waitsOk spec_PlaceOk.T3.2 spec_PlaceOk.B3=true:=by kernel_rfl
theorem spec_PlaceOk.z0 {P_:Prop} (h_:P_:=by go_wp2_with (first|((with_reducible refine gate_callee (f:=119) rfl ?_);refine ca_ (some 7) Tryz.func119 _ (spec_StartOk.calls k au av _ _ _ (gt_ st) (gt_ st) A_7.out) ?_;rintro e w_ ⟨rfl,hb⟩;refine ⟨_,rfl,?_⟩;replace hb:=hb.below;replace st:=st.ev hb;clear cl hb;have cl:=cl_ st)|((with_reducible refine gate_callee (f:=69) rfl ?_);refine gate_guard (by rfl) ?_;dsimp only;refine ca_ (some 12) Tryz.func69 _ (spec_l1In.calls _ _ _ _ _ A_12.out) ?_;rintro e w_ ⟨rfl,hb⟩;refine ⟨_,rfl,?_⟩;replace hb:=hb.below;replace st:=st.ev hb;clear cl hb;have cl:=cl_ st));first|(go_meet;(case rel=>exact ⟨_,(!a6),tx_,H',⟨by first|omega|exact Nat.le_refl _⟩,st.en⟩))|(go_meet;(case rel=>exact ⟨_,(true),tx_,H',⟨by first|omega|exact Nat.le_refl _⟩,st.en⟩))):P_:=h_
theorem spec_PlaceOk.calls (k:Nat) (au:Option Addr) (av:Nat) (ak:List Int) (a0_1:Int) (aE:Option Addr) (aG:Nat) (al:List Int) (r:Bool) (w:World) (hr0_0:Kd.C (Kd.int .i64) w au ak.length ak) (hc0_0:ak.length≤av) (hr0_2:Kd.C (Kd.int .i64) w aE al.length al) (hc0_2:al.length≤aG) (h:spec_PlaceOk.f k ak a0_1 al=some r) :
  Calls Tryz.prog 94 #[.agg #[.slice au ak.length av,.int .i64 a0_1,.slice aE al.length aG]] w fun e w'=>e=.returned (.bool r)∧Below w.heap.size w w':=by
 have hu35:=Tryz.underlying35;have st:=((ST.nil w).c hr0_0 hc0_0).c hr0_2 hc0_2;have s0:=st;have cl:=cl_ st;have H:=h;clear h;unfold spec_PlaceOk.f at H;go_enter Tryz.func94,Tryz.ntmps94;have HC3:=A_ H;clear H
 go_upto_region 1 with (first|((with_reducible refine gate_dst (N:=1) rfl ?_);refine al_ st ?_;clear st cl;intro g1 w_ st;have cl:=cl_ st))
 (try simp only [Act.put,sa_,sb_,sc_])
 go_cut [14] (fun bH wc=>∃(kq:Nat) (ao:Bool),bH=.bool ao∧Aside0 (spec_PlaceOk.j0 kq ao ak a0_1 al=some r)∧Aside0 (kq≤k)∧ST w [CA (Kd.int .i64) w au ak av,CA (Kd.int .i64) w aE al aG] [Bx g1 #[.slice au ak.length av,.int .i64 a0_1,.slice aE al.length aG] 35] wc)
 case first =>
  have H:=HC3.out;clear HC3;obtain ⟨a5,A_7,H⟩:=bnd_ H;rcases bx_ a5 with rfl|rfl
  ·
   replace H:=bt_ H;obtain ⟨a6,A_12,H⟩:=bnd_ H;have H':=A_ H;clear H;exact spec_PlaceOk.z0
  ·
   replace H:=bf_ H;have H':=A_ H;clear H;exact spec_PlaceOk.z0
 case rest =>
  clear HC3 st cl;obtain ⟨kq,ao,rfl,HA,HJ2,st⟩:=hcut;have cl:=cl_ st
  cases kq with
  |zero=>exact absurd HA.out (by simp [spec_PlaceOk.j0])
  |succ kj2 =>
   have H:=HA.out;clear HA;simp only [spec_PlaceOk.j0] at H;rcases bx_ ao with rfl|rfl
   ·
    replace H:=bt_ H;obtain rfl:=Option.some.inj H;go_wp2;go_ret;exact ⟨tw_,st.b⟩
   ·
    replace H:=bf_ H;obtain ⟨bl,A_23,H⟩:=bnd_ H;obtain ⟨⟨bI,bJ⟩,A_26,H⟩:=bnd_ H;(try dsimp only at H);obtain rfl:=Option.some.inj H;(try go_wp2);(all_goals (refine rg_ st [] ?_;clear st cl;intro w_ st hs;have cl:=cl_ st;refine with_tabW spec_PlaceOk.tab3 spec_PlaceOk.bits3 (fun HT_ HW_=>?_);refine pv_ 0 ?_;refine pv_ 2 ?_;refine pv_ 5 ?_;refine pv_ 8 ?_;refine tu_ 1 ?_;refine tu_ 3 ?_;refine tu_ 6 ?_;refine tu_ 9 ?_;refine pv_ 4 ?_;refine ov_ 7 (fun K hK=>?_);refine ca2_ (some 23) Tryz.func121 _ (spec_SameRule.calls kj2 _ _ _ _ A_23.out) ?_;rintro e w_ ⟨v0,rfl,h0,hb⟩;refine ⟨_,rfl,?_⟩;obtain ⟨B23_0,d23_0,rfl⟩:=Kd.S_slice h0;replace st:=st.p1 hb (st.ms h0);clear cl hb h0;have cl:=cl_ st;refine hK.out _ _ st.en (fun hs=>?_);clear hK K;refine nr_ 23 ?_;refine ov_ 10 (fun K hK=>?_);refine ca2_ (some 26) Tryz.func120 _ (spec_AfterWord.calls kj2 au av _ B23_0 d23_0 _ aE aG _ _ _ _ (gt_ st) (gt_ st) (gt_ st) (gt_ st) (gt_ st) (gt_ st) A_26.out) ?_;rintro e w_ ⟨v0,rfl,h0,hb⟩;refine ⟨_,rfl,?_⟩;obtain ⟨B26_0,d26_0,rfl⟩:=Kd.R_slice h0;replace st:=st.p1 hb (st.mr h0);clear cl hb h0;have cl:=cl_ st;refine hK.out _ _ st.en (fun hs=>?_);clear hK K;refine nr_ 26 ?_;refine pv_ 11 ?_;refine pv_ 12 ?_;refine pv_ 13 ?_;refine pv_ 14 ?_;refine pv_ 15 ?_;refine done_ (done_of HT_.out (by kernel_rfl)) ?_;all_goals (try go_wp2)));go_ret;exact ⟨tw_,st.b⟩
def spec_l1Number.f:Nat→Int→Option (ByteArray)
 |0,_=>none
 |k+1,a0=>if a0<10 then (some (strOfNums (([(wrap64 (48+(mx a0 0))) % 256]:List Int)))) else ((spec_l1Number.f k (wrap64 (Int.tdiv a0 10))).bind fun ag=>((some (([(wrap64 (48+(Int.tmod a0 10))) % 256]:List Int):List Int)).bind fun ah=>(if ag.size+(strOfNums ah).size≤9223372036854775807 then (some (ag++(strOfNums ah))) else (none))))
theorem spec_l1Number.mono_l:∀k,(∀y0,LeO (spec_l1Number.f k y0) (spec_l1Number.f (k+1) y0))
 |0=>fun _ r h=>by simp [spec_l1Number.f] at h
 |k+1=>by
  have ih0:=spec_l1Number.mono_l k
  ·
   intro y0
   unfold spec_l1Number.f
   repeat' (with_reducible first|exact ih0 _|exact mr_|exact mn_|refine mi_ ?_ ?_|refine mb_ ?_ (fun _=>?_))
theorem spec_l1Number.mono:∀a0 k,LeO (spec_l1Number.f k a0) (spec_l1Number.f (k+1) a0):=by
 intro a0 k;have ih0:=spec_l1Number.mono_l k;exact ih0 a0
def spec_l1Number.T3:Bool×List (List Nat×List Nat):=(true,[([],[]),([0],[0]),([1],[1]),([],[]),([3],[3]),([4],[4]),([5],[5]),([6],[6]),([7],[7]),([2,8],[2,8]),([9,2,0,1,2,3,4,5,6,7,8,9],[9])])
def spec_l1Number.B3:List Nat:=[0,1,3,0,8,24,56,120,248,511,1023]
theorem spec_l1Number.tab3:rtab .any (opsOf Tryz.f122 3)=spec_l1Number.T3:=by kernel_rfl
theorem spec_l1Number.bits3:waitsOk spec_l1Number.T3.2 spec_l1Number.B3=true:=by kernel_rfl
theorem spec_l1Number.calls (k:Nat):∀(a0:Int) (r:ByteArray) (w:World) (h:spec_l1Number.f k a0=some r),
  Calls Tryz.prog 122 #[.int .i64 a0] w fun e w'=>e=.returned (.string r)∧Below w.heap.size w w':=by
 induction k using Nat.strongRecOn with
 |_ k ih =>
 intro a0 r w h
 cases k with
 |zero=>exact absurd h (by simp [spec_l1Number.f])
 |succ k =>
 simp only [spec_l1Number.f] at h;have HB:=A_ (Below.refl w.heap.size w);have H:(if a0<10 then (some (strOfNums (([(wrap64 (48+(mx a0 0))) % 256]:List Int)))) else ((spec_l1Number.f k (wrap64 (Int.tdiv a0 10))).bind fun ag=>((some (([(wrap64 (48+(Int.tmod a0 10))) % 256]:List Int):List Int)).bind fun ah=>(if ag.size+(strOfNums ah).size≤9223372036854775807 then (some (ag++(strOfNums ah))) else (none)))))=some r:=h;clear h;replace H:=it_ H;rcases H with ⟨bs,H⟩|⟨bs,H⟩
 ·
  obtain ⟨aQ,aH⟩:∃j_:Int,(mx a0 0)=j_:=⟨_,rfl⟩
  replace H:(some (strOfNums (([(wrap64 (48+(aQ))) % 256]:List Int))))=some r:=by first|(rw [aH] at H;exact H)|(simp only [aH] at H ⊢;exact H)
  (try (have hji3l:0≤aQ:=by (rw [←aH];unfold mx;(repeat' split)<;>omega)));(try (have hji3m:0≤aQ:=by omega));have hji3_:(if a0<0 then 0 else a0)=aQ:=aH;obtain ⟨bu,aI⟩:∃y_:List Int,y_=(([(wrap64 (48+(aQ))) % 256]:List Int)):=⟨_,rfl⟩
  replace H:(some (strOfNums bu))=some r:=yq_ aI H;have aW:=A_ aI;clear aI;obtain rfl:=Option.some.inj H;go_enter Tryz.func122,Tryz.ntmps122;go_wp2_with (first|((with_reducible refine gate_dst (N:=9) rfl ?_);refine Kd.R_lit (Kd.int .u8) _ 5 ?hg (N:=9) ?hd (xs:=([(wrap64 (48+(aQ))) % 256]:List Int)) (inner:=[.int .u8 ((wrap64 (48+(aQ))) % 256)]) (ok:=fun _=>True) (okp:=fun _=>True) ?hr ?hp (fun _ hk=>hk) trivial (Below.refl _ _) (Nat.le_refl _) (by simp) ?_;(case hd=>rfl);(case hg=>rfl);(case hr=>first|(go_simp;done)|(go_simp;rfl));(case hp=>exact (Reps.one (show Kd.M (Kd.int .u8) _ _ _ ((wrap64 (48+(aQ))) % 256) [.int .u8 ((wrap64 (48+(aQ))) % 256)] from rfl) (Reps.none _ _)));intro bK w4 ho5 hb hg_ hnew_;clear hg_ hnew_;(first|rw [←aW.out] at ho5|(simp only [Int.reduceToNat] at ho5;rw [←aW.out] at ho5));have bn:=rx_ ho5 HB;replace HB:=bs_ HB hb;clear hb ho5;have hcv6:=own_string (P:=Tryz.prog) Tryz.underlying22 Tryz.underlying5 Tryz.underlying9 (Kd.own_of_R bn.out)));go_ret;exact ⟨by first|rfl|(simp [errW_none,errW_some,Option.map_none,Option.map_some]<;>rfl)|(simp only [←aH];first|rfl|(simp [errW_none,errW_some,Option.map_none,Option.map_some]<;>rfl))|(simp [*,errW_none,errW_some]<;>rfl),(tb_ HB.out)⟩
 ·
  obtain ⟨ag,A7,H⟩:=bnd_ H;(try dsimp only at H);obtain ⟨ah,aJ⟩:∃y_:List Int,y_=(([(wrap64 (48+(Int.tmod a0 10))) % 256]:List Int)):=⟨_,rfl⟩
  replace H:(if ag.size+(strOfNums ah).size≤9223372036854775807 then (some (ag++(strOfNums ah))) else (none))=some r:=yq_ aJ H;have ap:=A_ aJ;clear aJ;replace H:=i0_ H;obtain ⟨c8,H⟩:=H;have a8:=eq_true c8;have bL:decide (ag.size+(strOfNums ah).size≤9223372036854775807)=true:=decide_eq_true c8;(try have bM:(9223372036854775807<ag.size+(strOfNums ah).size)=False:=eq_false (Nat.not_lt.2 c8));obtain rfl:=Option.some.inj H;go_enter Tryz.func122,Tryz.ntmps122;(try go_wp2);replace HB:=A_ (ld_ HB.out);refine sv_ (S:=fun w'=>True) (ds:=[]) trivial (fun hHeld=>?_);refine with_tabW spec_l1Number.tab3 spec_l1Number.bits3 (fun HT_ HW_=>?_);generalize w.drew=w9 at HB hHeld ⊢;refine pv_ 0 ?_;refine pv_ 1 ?_;refine pv_ 3 ?_;refine pv_ 4 ?_;refine pv_ 5 ?_;refine pv_ 6 ?_;refine join_ (σ:=Value) 2 #[true,true,true,true,true,true,true,true,true,false,false] (fun s_=>[(13,.string ag),(18,s_),(19,.string (strOfNums ah))]) (fun s_ w'=>(Kd.R (Kd.int .u8) 5 w' w.heap.size (fun _=>True) s_ ah)∧(Below w.heap.size w w')) ?_ ?_;rotate_left
  ·
   intro hCont;refine wv_ 2 7 (fun K hK=>?_) (fun K hK=>?_)
   ·
    skip;refine goes_ Tryz.func122 (by kernel_rfl) rfl #[.int .i64 (wrap64 (Int.tdiv a0 10))] (by rfl) rfl rfl tz_ ?_;(with_reducible refine (ih k (by omega) (wrap64 (Int.tdiv a0 10)) ag _ A7.out).mono ?_);rintro e bN ⟨rfl,hb⟩;refine ⟨_,rfl,?_⟩;replace HB:=bs_ HB hb;(try clear hb);(try clear hb2);(try clear hk);(try clear hi);refine hK.out _ _ trivial (fun hHeld=>?_);clear hK K;refine nr_ 13 ?_;refine ov_ 7 (fun K hK=>?_);refine Kd.R_lit_step (Kd.int .u8) _ 5 ?hg (N:=18) ?hd (xs:=([(wrap64 (48+(Int.tmod a0 10))) % 256]:List Int)) (inner:=[.int .u8 ((wrap64 (48+(Int.tmod a0 10))) % 256)]) (ok:=fun _=>True) (okp:=fun _=>True) ?hr ?hp (fun _ hk=>hk) trivial (Below.refl _ _) (Nat.le_refl _) (by simp) ?_;(case hd=>rfl);(case hg=>rfl);(case hr=>first|(go_simp;done)|(go_simp;rfl));(case hp=>exact (Reps.one (show Kd.M (Kd.int .u8) _ _ _ ((wrap64 (48+(Int.tmod a0 10))) % 256) [.int .u8 ((wrap64 (48+(Int.tmod a0 10))) % 256)] from rfl) (Reps.none _ _)));intro aw bP ho12 hb hg_ hnew_;clear hg_ hnew_;(first|rw [←ap.out] at ho12|(simp only [Int.reduceToNat] at ho12;rw [←ap.out] at ho12));have ae:=rx_ ho12 HB;replace HB:=bs_ HB hb;clear hb ho12;refine hK.out _ _ trivial (fun hHeld=>?_);clear hK K;refine nr_ 18 ?_;refine ov_ 8 (fun K hK=>?_);have hcv13:=own_string (P:=Tryz.prog) Tryz.underlying22 Tryz.underlying5 Tryz.underlying9 (Kd.own_of_R ae.out);refine va_ rfl ?_;clear hcv13;refine hK.out _ _ trivial (fun hHeld=>?_);clear hK K;refine nr_ 19 ?_;exact nq_ (hCont (aw) _ ⟨(rR_ ae.out),(tb_ HB.out)⟩)
   ·
    skip;refine Kd.R_lit_step (Kd.int .u8) _ 5 ?hg (N:=18) ?hd (xs:=([(wrap64 (48+(Int.tmod a0 10))) % 256]:List Int)) (inner:=[.int .u8 ((wrap64 (48+(Int.tmod a0 10))) % 256)]) (ok:=fun _=>True) (okp:=fun _=>True) ?hr ?hp (fun _ hk=>hk) trivial (Below.refl _ _) (Nat.le_refl _) (by simp) ?_;(case hd=>rfl);(case hg=>rfl);(case hr=>first|(go_simp;done)|(go_simp;rfl));(case hp=>exact (Reps.one (show Kd.M (Kd.int .u8) _ _ _ ((wrap64 (48+(Int.tmod a0 10))) % 256) [.int .u8 ((wrap64 (48+(Int.tmod a0 10))) % 256)] from rfl) (Reps.none _ _)));intro aw bN ho11 hb hg_ hnew_;clear hg_ hnew_;(first|rw [←ap.out] at ho11|(simp only [Int.reduceToNat] at ho11;rw [←ap.out] at ho11));have ae:=rx_ ho11 HB;replace HB:=bs_ HB hb;clear hb ho11;refine hK.out _ _ trivial (fun hHeld=>?_);clear hK K;refine nr_ 18 ?_;refine wv_ 2 8 (fun K hK=>?_) (fun K hK=>?_)
    ·
     skip;refine goes_ Tryz.func122 (by kernel_rfl) rfl #[.int .i64 (wrap64 (Int.tdiv a0 10))] (by rfl) rfl rfl tz_ ?_;(with_reducible refine (ih k (by omega) (wrap64 (Int.tdiv a0 10)) ag _ A7.out).mono ?_);rintro e bQ ⟨rfl,hb⟩;refine ⟨_,rfl,?_⟩;replace ae:=rb_ ae hb;replace HB:=bs_ HB hb;(try clear hb);(try clear hb2);(try clear hk);(try clear hi);refine hK.out _ _ trivial (fun hHeld=>?_);clear hK K;refine nr_ 13 ?_;refine ov_ 8 (fun K hK=>?_);have hcv13:=own_string (P:=Tryz.prog) Tryz.underlying22 Tryz.underlying5 Tryz.underlying9 (Kd.own_of_R ae.out);refine va_ rfl ?_;clear hcv13;refine hK.out _ _ trivial (fun hHeld=>?_);clear hK K;refine nr_ 19 ?_;exact nq_ (hCont (aw) _ ⟨(rR_ ae.out),(tb_ HB.out)⟩)
    ·
     skip;have hcv12:=own_string (P:=Tryz.prog) Tryz.underlying22 Tryz.underlying5 Tryz.underlying9 (Kd.own_of_R ae.out);refine va_ rfl ?_;clear hcv12;refine hK.out _ _ trivial (fun hHeld=>?_);clear hK K;refine nr_ 19 ?_;refine ov_ 2 (fun K hK=>?_);refine goes_ Tryz.func122 (by kernel_rfl) rfl #[.int .i64 (wrap64 (Int.tdiv a0 10))] (by rfl) rfl rfl tz_ ?_;(with_reducible refine (ih k (by omega) (wrap64 (Int.tdiv a0 10)) ag _ A7.out).mono ?_);rintro e bR ⟨rfl,hb⟩;refine ⟨_,rfl,?_⟩;replace ae:=rb_ ae hb;replace HB:=bs_ HB hb;(try clear hb);(try clear hb2);(try clear hk);(try clear hi);refine hK.out _ _ trivial (fun hHeld=>?_);clear hK K;refine nr_ 13 ?_;exact nq_ (hCont (aw) _ ⟨(rR_ ae.out),(tb_ HB.out)⟩)
  rintro aw bB ⟨h0_,h1_⟩;have ae:Aside0 (Kd.R (Kd.int .u8) 5 bB w.heap.size (fun _=>True) aw ah):=⟨h0_⟩
  replace HB:Aside0 (Below w.heap.size w bB):=⟨h1_⟩
  clear h0_ h1_;have hHeld:=trivial;refine norm_ (a':=?_) ?_ ?_;rotate_left
  ·
   simp only [putAll,Act.put,sa_,sb_,sc_];rfl
  refine pv_ 9 ?_;refine pv_ 10 ?_;refine done_ (done_of HT_.out (by kernel_rfl)) ?_;(try go_wp2);go_ret;exact ⟨tw_,(tb_ HB.out)⟩
end Go.Proofs.YtopboabeigakoaaGreatDoor.MFnStoreNever
