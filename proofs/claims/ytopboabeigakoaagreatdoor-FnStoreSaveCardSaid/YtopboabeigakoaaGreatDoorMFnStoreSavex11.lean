/- For the law FnStoreSave: walks of the functions that it reaches: each call returns what the plain function beside it tells. The conditions stand in each statement. -/
import Derived.Test.YtopboabeigakoaaGreatDoorV
import Derived.Test.YtopboabeigakoaaGreatDoorMFnStoreSavex0
import Derived.Test.YtopboabeigakoaaGreatDoorMFnStoreSavex10
namespace Go.Proofs.YtopboabeigakoaaGreatDoor.MFnStoreSave
open Go.RowKit Go.Proofs.YtopboabeigakoaaGreatDoorW.PrintWords Go.Proofs.YtopboabeigakoaaGreatDoorW.PrintLast Go.Proofs.YtopboabeigakoaaGreatDoorW.PrintMore
attribute [local go_sem] max2_int min2_int max_two min_two max_three min_three max_four min_four   -- for this text's walks alone
set_option linter.unusedVariables false
set_option linter.unusedSimpArgs false
set_option maxHeartbeats 8000000
set_option maxRecDepth 100000
def spec_WordOk.l0:Nat→Int→List Int→Int→Option (Bool)
 |0,_,_,_=>none
 |k+1,x0,x1,x5=>if x5<(x1.length:Int) then (if 0≤x5 then (if (rd x1 x5)<0 then (some false) else (if (rd x1 x5)≥x0 then (some false) else (spec_WordOk.l0 k x0 x1 (wrap64 (x5+1))))) else (none)) else ((spec_l1In.f x0 1 3).bind fun aX=>(if aX=true then (some (decide ((x1.length:Int)≤6))) else (some false)))
def spec_WordOk.f (k:Nat) (a0:Int) (l1:List Int):Option (Bool):=spec_WordOk.l0 k a0 l1 0
theorem spec_WordOk.calls (k:Nat) (a0:Int) (A1:Option Addr) (c1:Nat) (l1:List Int) (r:Bool) (w:World) (hr1:Kd.C (Kd.int .i64) w A1 l1.length l1) (hc1:l1.length≤c1) (h:spec_WordOk.f k a0 l1=some r) :
  Calls Tryz.prog 144 #[.int .i64 a0,.slice A1 l1.length c1] w fun e w'=>e=.returned (.bool r)∧Drawn0 w w':=by
 have HR1:=A_ hr1;have HC1:=A_ hc1;clear hr1 hc1;have H:(spec_WordOk.l0 k a0 l1 0)=some r:=h;clear h;have H':=A_ H;clear H;go_enter Tryz.func144,Tryz.ntmps144;go_wp2
 go_loopg [5] k (fun kq v5 w'=>∃(aa:Int),v5=.int .i64 aa∧Aside0 (spec_WordOk.l0 kq a0 l1 aa=some r)∧Aside0 (kq≤k)∧Drawn0 w w')
 case atStart=>exact ⟨(0),tx_,H',⟨Nat.le_refl _⟩,dz_⟩
 case round =>
  clear H';obtain ⟨aa,rfl,HA,HK1,⟨m1,rfl⟩⟩:=hrel
  cases gk with
  |zero=>exact absurd HA.out (by simp [spec_WordOk.l0])
  |succ k1 =>
   have H:=HA.out;clear HA;simp only [spec_WordOk.l0] at H;replace H:=it_ H;rcases H with ⟨br,H⟩|⟨br,H⟩
   ·
    replace H:=in_ H;obtain ⟨bD,H⟩:=H;replace H:=it_ H;rcases H with ⟨av,H⟩|⟨av,H⟩
    ·
     obtain rfl:=Option.some.inj H;obtain ⟨p456,q456,ad456,e456,al⟩:=a2_ (Kd.at_int HR1.out aa);cases e456;go_wp2;go_ret;exact ⟨tx_,dz_⟩
    ·
     replace H:=ih_ H;rcases H with ⟨a9,H⟩|⟨a9,H⟩
     ·
      obtain rfl:=Option.some.inj H;obtain ⟨p456,q456,ad456,e456,al⟩:=a2_ (Kd.at_int HR1.out aa);cases e456;have p457:0≤(aa:Int):=od_;have q457:aa<(l1.length:Int):=od_;obtain ⟨ad457,e457,aK⟩:=Kd.at_int HR1.out aa p457 q457;obtain rfl:ad456=ad457:=(by injection e457)
      replace p457:=eq_true p457;replace q457:=eq_true q457;go_wp2;go_ret;exact ⟨tx_,dz_⟩
     ·
      have H':=A_ H;clear H;obtain ⟨p456,q456,ad456,e456,al⟩:=a2_ (Kd.at_int HR1.out aa);cases e456;have p457:0≤(aa:Int):=od_;have q457:aa<(l1.length:Int):=od_;obtain ⟨ad457,e457,aK⟩:=Kd.at_int HR1.out aa p457 q457;obtain rfl:ad456=ad457:=(by injection e457)
      replace p457:=eq_true p457;replace q457:=eq_true q457;go_wp2
      go_roundg k1
      case measure=>have:=HK1.out;omega
      case rel=>exact ⟨(wrap64 (aa+1)),tx_,H',⟨by have:=HK1.out;omega⟩,dz_⟩
   ·
    obtain ⟨aX,A7,H⟩:=bnd_ H;(try dsimp only at H);by_cases c8:aX=true
    ·
     subst c8;replace H:(some (decide ((l1.length:Int)≤6)))=some r:=by rw [if_pos rfl] at H;exact H
     obtain rfl:=Option.some.inj H;go_wp2_with (first|((with_reducible refine gate_callee (f:=69) rfl ?_);refine gl_ (some 26) Tryz.func69 #[.int .i64 a0,.int .i64 1,.int .i64 3] ?_;(with_reducible refine (spec_l1In.calls a0 1 3 true _ A7.out).mono ?_);rintro e w' ⟨rfl,⟨nd,rfl⟩⟩;refine ⟨_,rfl,?_⟩));go_ret;exact ⟨tx_,dz_⟩
    ·
     replace c8:=Bool.eq_false_iff.mpr c8;subst c8;replace H:(some false)=some r:=by rw [if_neg (show ¬(false=true) by decide)] at H;exact H
     obtain rfl:=Option.some.inj H;go_wp2_with (first|((with_reducible refine gate_callee (f:=69) rfl ?_);refine gl_ (some 26) Tryz.func69 #[.int .i64 a0,.int .i64 1,.int .i64 3] ?_;(with_reducible refine (spec_l1In.calls a0 1 3 false _ A7.out).mono ?_);rintro e w' ⟨rfl,⟨nd,rfl⟩⟩;refine ⟨_,rfl,?_⟩));go_ret;exact ⟨tx_,dz_⟩
def spec_l4After.l0:Nat→List Int→List (List Int)→Int→List Int→Int→Option (List Int)
 |0,_,_,_,_,_=>none
 |k+1,x0,x1,x2,x7,x8=>if x8<(x0.length:Int) then (if 0≤x8 then (if 0≤x2 then (if x2<(x1.length:Int) then (if x8<((rd_L1 x1 x2).length:Int) then (if x7.length<17592186044416 then (spec_l4After.l0 k x0 x1 x2 (x7++[wrap64 ((rd x0 x8)+(rd (rd_L1 x1 x2) x8))]) (wrap64 (x8+1))) else (none)) else (none)) else (none)) else (none)) else (none)) else (some x7)
def spec_l4After.f (k:Nat) (l0:List Int) (l1:List (List Int)) (a2:Int):Option (List Int):=spec_l4After.l0 k l0 l1 a2 (([]:List Int)) 0
def spec_l4After.T5:Bool×List (List Nat×List Nat):=(true,[([],[]),([],[]),([],[]),([1,2],[1,2]),([3],[3]),([],[]),([],[]),([5,6],[5,6]),([7],[7]),([],[]),([8,9],[8,9]),([10],[10]),([4,11],[4,11]),([12],[12]),([0,13],[0,13]),([14,14,0,1,2,3,4,5,6,7,8,9,10,11,12,13,14],[0,14])])
def spec_l4After.B5:List Nat:=[0,0,0,6,14,0,0,96,224,0,992,2016,4094,8190,16383,32767]
theorem spec_l4After.tab5:rtab .any (opsOf Tryz.f145 5)=spec_l4After.T5:=by kernel_rfl
theorem spec_l4After.bits5:waitsOk spec_l4After.T5.2 spec_l4After.B5=true:=by kernel_rfl
theorem spec_l4After.calls (k:Nat) (A0:Option Addr) (c0:Nat) (l0:List Int) (A1:Option Addr) (c1:Nat) (l1:List (List Int)) (a2:Int) (r:List Int) (w:World) (hr0:Kd.C (Kd.int .i64) w A0 l0.length l0) (hc0:l0.length≤c0) (hr1:Kd.C (Kd.slice 3 (Kd.int .i64)) w A1 l1.length l1) (hc1:l1.length≤c1) (h:spec_l4After.f k l0 l1 a2=some r) :
  Calls Tryz.prog 145 #[.slice A0 l0.length c0,.slice A1 l1.length c1,.int .i64 a2] w fun e w'=>∃v0_:Value,e=.returned (v0_)∧Kd.R (Kd.int .i64) 3 w' w.heap.size (fun _=>True) v0_ r∧Below w.heap.size w w':=by
 have st:=((ST.nil w).c hr0 hc0).c hr1 hc1;have s0:=st;have cl:=cl_ st;have H:=h;clear h;unfold spec_l4After.f at H;go_enter Tryz.func145,Tryz.ntmps145;have H':=A_ H;clear H;go_wp2_with (first|((with_reducible refine gate_dst (N:=9) rfl ?_);refine nwl_ (Kd.int .i64) 3 (([]:List Int):List Int) [] st ?_;clear st cl;intro B9_0 d9_0 w_ st;have cl:=cl_ st))
 go_loopg [7,8] k (fun kq v7 v8 w'=>∃(ak:List Int) (ac:Int) (aw:Option Addr) (aM:Nat),v7=.slice aw ak.length aM∧v8=.int .i64 ac∧Aside0 (spec_l4After.l0 kq l0 l1 a2 ak ac=some r)∧Aside0 (kq≤k)∧ST w [CA (Kd.int .i64) w A0 l0 c0,CA (Kd.slice 3 (Kd.int .i64)) w A1 l1 c1] [AR (Kd.int .i64) 3 w.heap.size (.slice aw ak.length aM) ak] w')
 case atStart=>exact ⟨(([]:List Int)),(0),B9_0,d9_0,tx_,tx_,H',⟨Nat.le_refl _⟩,st.en⟩
 case round =>
  clear H' st cl;obtain ⟨ak,ac,aw,aM,rfl,rfl,HA,HK1,st⟩:=hrel;have cl:=cl_ st
  cases gk with
  |zero=>exact absurd HA.out (by simp [spec_l4After.l0])
  |succ k1 =>
   have H:=HA.out;clear HA;simp only [spec_l4After.l0] at H;replace H:=it_ H;rcases H with ⟨av,H⟩|⟨av,H⟩
   ·
    replace H:=in_ H;obtain ⟨a9,H⟩:=H;replace H:=in_ H;obtain ⟨bE,H⟩:=H;replace H:=in_ H;obtain ⟨bb,H⟩:=H;replace H:=in_ H;obtain ⟨bs,H⟩:=H;replace H:=il_ H;obtain ⟨bc,H⟩:=H;have H':=A_ H;clear H;(try go_wp2);(all_goals ((try clear ix_);obtain ⟨p_,q_,ad_,e_,ax⟩:=a2_ (Kd.at_int (gC_ s0 (Kd.int .i64) A0 l0) ac);have ix462:=ix1_ Tryz.underlying33 e_ p_ q_ (c:=c0);clear e_;obtain ⟨p_,q_,ad_,ay,aY,e_,az,l0_,C0_⟩:=a2_ (at_L1 (gC_ s0 (Kd.slice 3 (Kd.int .i64)) A1 l1) a2);replace st:=st.c C0_ l0_;have ix463:=ix1_ Tryz.underlying118 e_ p_ q_ (c:=c1);clear e_;obtain ⟨p_,q_,ad_464,e_464,x0⟩:=a2_ (Kd.at_int (gC_ st (Kd.int .i64) ay (rd_L1 l1 a2)) ac);have ix464:=ix1_ Tryz.underlying33 e_464 p_ q_ (c:=aY);replace e_464:=A_ e_464;clear x0;refine rg_ st [] ?_;clear st cl;intro w_ st hs;have cl:=cl_ st;refine with_tabW spec_l4After.tab5 spec_l4After.bits5 (fun HT_ HW_=>?_);refine pv_ 0 ?_;refine pv_ 1 ?_;refine pv_ 2 ?_;refine pv_ 3 ?_;refine pv_ 5 ?_;refine pv_ 6 ?_;refine pv_ 7 ?_;refine pv_ 9 ?_;refine tu_ 4 ?_ (hy:=by intro w' s_;have cl:=cl_ s_;have y462_0:=cb_ s_ ax;have y463_0:=cb_ s_ az;go_simp;first|with_reducible rfl|(rw [if_neg (by omega)];done));refine tu_ 8 ?_ (hy:=by intro w' s_;have cl:=cl_ s_;have y462_0:=cb_ s_ ax;have y463_0:=cb_ s_ az;go_simp;first|with_reducible rfl|(rw [if_neg (by omega)];done));refine pv_ 10 ?_;refine tu_ 11 ?_ (hy:=by intro w' s_;have cl:=cl_ s_;obtain ⟨_,_,_,e_,x0⟩:=a2_ (Kd.at_int (gC_ s_ (Kd.int .i64) ay (rd_L1 l1 a2)) ac);rw [cq_ e_464.out e_] at x0;clear e_;go_simp;first|with_reducible rfl|(rw [if_neg (by omega)];done));refine pv_ 12 ?_;refine ov_ 13 (fun K hK=>?_);refine bs2_ st [.int .i64 (wrap64 ((rd l0 ac)+(rd (rd_L1 l1 a2) ac)))] 3 ?_;refine hK.out _ _ (st.ev (la_ (Below.refl _ _) _)).en (fun hs=>?_);clear hK K;refine nr_ 29 ?_;refine ov_ 14 (fun K hK=>?_);refine ap2_ aw ak (wrap64 ((rd l0 ac)+(rd (rd_L1 l1 a2) ac))) [.int .i64 (wrap64 ((rd l0 ac)+(rd (rd_L1 l1 a2) ac)))] ((.int .i64 0)) 8 st Tryz.underlying33 ?_ (hl:=by have:=bc.out;omega);clear st cl;intro P30 q30 w_ st;have cl:=cl_ st;refine hK.out _ _ st.en (fun hs=>?_);clear hK K;refine nr_ 30 ?_;refine pv_ 15 ?_;refine done_ (done_of HT_.out (by kernel_rfl)) ?_;all_goals (try go_wp2)))
    go_roundg k1
    case measure=>have:=HK1.out;omega
    case rel=>exact ⟨((ak++[wrap64 ((rd l0 ac)+(rd (rd_L1 l1 a2) ac))])),(wrap64 (ac+1)),P30,q30,tx_,tx_,H',⟨by have:=HK1.out;omega⟩,st.en⟩
   ·
    obtain rfl:=Option.some.inj H;go_wp2;go_ret;exact ⟨.slice aw ak.length aM,tw_,gtl_ st,st.b⟩
mutual
def spec_AfterWord.j0:Nat→List Int→List (List Int)→List Int→Bool→Option (List Int×Bool)
 |0,_,_,_,_=>none
 |k+1,x0,x1,x2,x26=>if x26=true then (some ((([]:List Int)),false)) else ((some (([]:List Int):List Int)).bind fun bd=>(if bd.length+x0.length<17592186044416 then (spec_AfterWord.l0 k x1 x2 (bd++x0) 0) else (none)))
def spec_AfterWord.l0:Nat→List (List Int)→List Int→List Int→Int→Option (List Int×Bool)
 |0,_,_,_,_=>none
 |k+1,x1,x2,x8,x9=>if x9<(x2.length:Int) then (if 0≤x9 then (if 0≤(rd x2 x9) then (if (rd x2 x9)<(x8.length:Int) then (if (rd x8 (rd x2 x9))<1 then (some ((([]:List Int)),false)) else ((spec_l4After.f k x8 x1 (rd x2 x9)).bind fun aZ=>(spec_AfterWord.l0 k x1 x2 aZ (wrap64 (x9+1))))) else (none)) else (none)) else (none)) else (some (x8,true))
end
def spec_AfterWord.f (k:Nat) (l0:List Int) (l1:List (List Int)) (l2:List Int):Option (List Int×Bool):=(spec_StartOk.f k l0).bind fun a3=>(if a3=true then ((spec_RuleOk.f k (l0.length:Int) l1).bind fun a4=>(if a4=true then ((spec_WordOk.f k (l0.length:Int) l2).bind fun a5=>(spec_AfterWord.j0 k l0 l1 l2 (!a5))) else (spec_AfterWord.j0 k l0 l1 l2 true))) else (spec_AfterWord.j0 k l0 l1 l2 true))
theorem spec_AfterWord.z0 {P_:Prop} (h_:P_:=by go_wp2_with (first|((with_reducible refine gate_callee (f:=119) rfl ?_);refine ca_ (some 11) Tryz.func119 _ (spec_StartOk.calls k A0 c0 _ _ _ (gt_ st) (gt_ st) A_11.out) ?_;rintro e w_ ⟨rfl,hb⟩;refine ⟨_,rfl,?_⟩;replace hb:=hb.below;replace st:=st.ev hb;clear cl hb;have cl:=cl_ st)|((with_reducible refine gate_callee (f:=143) rfl ?_);refine gate_guard (by rfl) ?_;dsimp only;refine ca_ (some 17) Tryz.func143 _ (spec_RuleOk.calls k _ A1 c1 _ _ _ (gt_ st) (gt_ st) A_17.out) ?_;rintro e w_ ⟨rfl,hb⟩;refine ⟨_,rfl,?_⟩;replace hb:=hb.below;replace st:=st.ev hb;clear cl hb;have cl:=cl_ st)|((with_reducible refine gate_callee (f:=144) rfl ?_);refine gate_guard (by rfl) ?_;dsimp only;refine ca_ (some 24) Tryz.func144 _ (spec_WordOk.calls k _ A2 c2 _ _ _ (gt_ st) (gt_ st) A_24.out) ?_;rintro e w_ ⟨rfl,hb⟩;refine ⟨_,rfl,?_⟩;replace hb:=hb.below;replace st:=st.ev hb;clear cl hb;have cl:=cl_ st));first|(go_meet;(case rel=>exact ⟨_,(!a5),tx_,H',⟨by first|omega|exact Nat.le_refl _⟩,st.en⟩))|(go_meet;(case rel=>exact ⟨_,(true),tx_,H',⟨by first|omega|exact Nat.le_refl _⟩,st.en⟩))):P_:=h_
theorem spec_AfterWord.z1 {P_:Prop} (h_:P_:=by go_wp2_with (first|((with_reducible refine gate_dst (N:=40) rfl ?_);obtain ⟨p_,q_,ad_,e_,x0⟩:=a2_ (Kd.at_int (gC_ st (Kd.int .i64) A2 l2) ae);have ix_:=ix1_ Tryz.underlying33 e_ p_ q_ (c:=c2);clear e_;go_step)|((with_reducible refine gate_dst (N:=42) rfl ?_);obtain ⟨p_,q_,ad_,e_,x0⟩:=a2_ (Kd.at_int (gC_ st (Kd.int .i64) ap ah) (rd l2 ae));have ix_:=ix1_ Tryz.underlying33 e_ p_ q_ (c:=aq);clear e_;go_step)|((with_reducible refine gate_dst (N:=45) rfl ?_);refine nw_ (Kd.int .i64) 3 (([]:List Int):List Int) [] st ?_;clear st cl;intro B45_0 d45_0 w_ st;have cl:=cl_ st)|((with_reducible refine gate_dst (N:=50) rfl ?_);obtain ⟨p_,q_,ad_,e_,x0⟩:=a2_ (Kd.at_int (gC_ st (Kd.int .i64) A2 l2) ae);have ix_:=ix1_ Tryz.underlying33 e_ p_ q_ (c:=c2);clear e_;go_step)|((with_reducible refine gate_callee (f:=145) rfl ?_);refine ca_ (some 52) Tryz.func145 _ (spec_l4After.calls k2 ap aq _ A1 c1 _ _ _ _ (gt_ st) (gt_ st) (gt_ st) (gt_ st) A_52.out) ?_;rintro e w_ ⟨v0,rfl,h0,hb⟩;refine ⟨_,rfl,?_⟩;obtain ⟨B52_0,d52_0,rfl⟩:=Kd.R_slice h0;replace st:=st.p1 hb (st.mr h0);clear cl hb h0;have cl:=cl_ st));first|(go_ret2;exact ⟨.slice B45_0 ([]:List Int).length d45_0,tw_,gt_ st,st.b⟩)|(go_roundg k2;(case measure=>have:=HJ4.out;have:=HK2.out;omega);(case rel=>exact ⟨(aZ),(wrap64 (ae+1)),B52_0,d52_0,tx_,tx_,H',⟨by have:=HJ4.out;have:=HK2.out;omega⟩,st.en⟩))|(go_ret2;exact ⟨.slice ap ah.length aq,tw_,gt_ st,st.b⟩)):P_:=h_
theorem spec_AfterWord.calls (k:Nat) (A0:Option Addr) (c0:Nat) (l0:List Int) (A1:Option Addr) (c1:Nat) (l1:List (List Int)) (A2:Option Addr) (c2:Nat) (l2:List Int) (r1:List Int) (r2:Bool) (w:World) (hr0:Kd.C (Kd.int .i64) w A0 l0.length l0) (hc0:l0.length≤c0) (hr1:Kd.C (Kd.slice 3 (Kd.int .i64)) w A1 l1.length l1) (hc1:l1.length≤c1) (hr2:Kd.C (Kd.int .i64) w A2 l2.length l2) (hc2:l2.length≤c2) (h:spec_AfterWord.f k l0 l1 l2=some (r1,r2)) :
  Calls Tryz.prog 120 #[.slice A0 l0.length c0,.slice A1 l1.length c1,.slice A2 l2.length c2] w fun e w'=>∃v0_:Value,e=.returned (.tuple #[v0_,.bool r2])∧Kd.R (Kd.int .i64) 3 w' w.heap.size (fun _=>True) v0_ r1∧Below w.heap.size w w':=by
 have st:=(((ST.nil w).c hr0 hc0).c hr1 hc1).c hr2 hc2;have s0:=st;have cl:=cl_ st;have H:=h;clear h;unfold spec_AfterWord.f at H;go_enter Tryz.func120,Tryz.ntmps120;have HC5:=A_ H;clear H
 go_upto_region 1 with (fail)
 go_cut [26] (fun bF wc=>∃(kq:Nat) (am:Bool),bF=.bool am∧Aside0 (spec_AfterWord.j0 kq l0 l1 l2 am=some (r1,r2))∧Aside0 (kq≤k)∧ST w [CA (Kd.int .i64) w A0 l0 c0,CA (Kd.slice 3 (Kd.int .i64)) w A1 l1 c1,CA (Kd.int .i64) w A2 l2 c2] [] wc)
 case first =>
  have H:=HC5.out;clear HC5;obtain ⟨a3,A_11,H⟩:=bnd_ H;rcases bx_ a3 with rfl|rfl
  ·
   replace H:=bt_ H;obtain ⟨a4,A_17,H⟩:=bnd_ H;rcases bx_ a4 with rfl|rfl
   ·
    replace H:=bt_ H;obtain ⟨a5,A_24,H⟩:=bnd_ H;have H':=A_ H;clear H;exact spec_AfterWord.z0
   ·
    replace H:=bf_ H;have H':=A_ H;clear H;exact spec_AfterWord.z0
  ·
   replace H:=bf_ H;have H':=A_ H;clear H;exact spec_AfterWord.z0
 case rest =>
  clear HC5 st cl;obtain ⟨kq,am,rfl,HA,HJ4,st⟩:=hcut;have cl:=cl_ st
  cases kq with
  |zero=>exact absurd HA.out (by simp [spec_AfterWord.j0])
  |succ kj4 =>
   have H:=HA.out;clear HA;simp only [spec_AfterWord.j0] at H;rcases bx_ am with rfl|rfl
   ·
    replace H:=bt_ H;obtain ⟨rfl,rfl⟩:=sj2_ H;go_wp2_with (first|((with_reducible refine gate_dst (N:=27) rfl ?_);refine nw_ (Kd.int .i64) 3 (([]:List Int):List Int) [] st ?_;clear st cl;intro B27_0 d27_0 w_ st;have cl:=cl_ st));go_ret2;exact ⟨.slice B27_0 ([]:List Int).length d27_0,tw_,gt_ st,st.b⟩
   ·
    replace H:=bf_ H;replace H:=sm_ H;(try dsimp only at H);replace H:=il_ H;obtain ⟨bu,H⟩:=H;(try simp only [List.nil_append] at H);have H':=A_ H;clear H;go_wp2_with (first|((with_reducible refine gate_dst (N:=28) rfl ?_);refine nwl_ (Kd.int .i64) 3 (([]:List Int):List Int) [] st ?_;clear st cl;intro B28_0 d28_0 w_ st;have cl:=cl_ st)|((with_reducible refine gate_dst (N:=30) rfl ?_);refine apr0_ B28_0 l0 A0 c0 ((.int .i64 0)) 8 st Tryz.underlying33 (gt_ st) ?_ (hl:=by have:=bu.out;simp only [List.length_nil] at this;omega);clear st cl;intro P30 q30 w_ st;have cl:=cl_ st))
    go_loopg [8,9] kj4 (fun kq v8 v9 w'=>∃(ah:List Int) (ae:Int) (ap:Option Addr) (aq:Nat),v8=.slice ap ah.length aq∧v9=.int .i64 ae∧Aside0 (spec_AfterWord.l0 kq l1 l2 ah ae=some (r1,r2))∧Aside0 (kq≤kj4)∧ST w [CA (Kd.int .i64) w A0 l0 c0,CA (Kd.slice 3 (Kd.int .i64)) w A1 l1 c1,CA (Kd.int .i64) w A2 l2 c2,AR (Kd.int .i64) 3 w.heap.size (.slice ap ah.length aq) ah] [] w')
    case atStart=>exact ⟨(l0),(0),P30,q30,tx_,tx_,H',⟨Nat.le_refl _⟩,(st.lp P30 l0).en⟩
    case round =>
     clear H' st cl;obtain ⟨ah,ae,ap,aq,rfl,rfl,HA,HK2,st⟩:=hrel;have cl:=cl_ st
     cases gk with
     |zero=>exact absurd HA.out (by simp [spec_AfterWord.l0])
     |succ k2 =>
      have H:=HA.out;clear HA;simp only [spec_AfterWord.l0] at H;replace H:=it_ H;rcases H with ⟨bb,H⟩|⟨bb,H⟩
      ·
       replace H:=in_ H;obtain ⟨bs,H⟩:=H;replace H:=in_ H;obtain ⟨be,H⟩:=H;replace H:=in_ H;obtain ⟨bf,H⟩:=H;replace H:=it_ H;rcases H with ⟨aU,H⟩|⟨aU,H⟩
       ·
        obtain ⟨rfl,rfl⟩:=sj2_ H;exact spec_AfterWord.z1
       ·
        obtain ⟨aZ,A_52,H⟩:=bnd_ H;have H':=A_ H;clear H;exact spec_AfterWord.z1
      ·
       obtain ⟨rfl,rfl⟩:=sj2_ H;exact spec_AfterWord.z1
def spec_SameRule.l0:Nat→Int→Int→List (List Int)→Int→Option ((List (List Int)))
 |0,_,_,_,_=>none
 |k+1,x0,x1,x5,x6=>if x6<x0 then ((spec_l1In.f x0 1 3).bind fun a6=>(if a6=true then ((spec_l1In.f x1 (-1) 3).bind fun aA=>(if aA=true then (if 0≤x0 then (if (x0:Int).toNat≤35184372088832 then ((some (List.replicate (x0:Int).toNat 0:List Int)).bind fun ad=>(if 0≤x6 then (if x6<(ad.length:Int) then (if x5.length<5864062014805 then (spec_SameRule.l0 k x0 x1 (x5++[(ad.set (x6:Int).toNat x1)]) (wrap64 (x6+1))) else (none)) else (none)) else (none))) else (none)) else (none)) else (some x5))) else (some x5))) else (some x5)
def spec_SameRule.f (k:Nat) (a0:Int) (a1:Int):Option ((List (List Int))):=spec_SameRule.l0 k a0 a1 (([]:List (List Int))) 0
theorem spec_SameRule.mono_l:∀k,(∀y0 y1 y2 y3,LeO (spec_SameRule.l0 k y0 y1 y2 y3) (spec_SameRule.l0 (k+1) y0 y1 y2 y3))
 |0=>fun _ _ _ _ r h=>by simp [spec_SameRule.l0] at h
 |k+1=>by
  have ih0:=spec_SameRule.mono_l k
  ·
   intro y0 y1 y2 y3
   unfold spec_SameRule.l0
   repeat' (with_reducible first|exact ih0 _ _ _ _|exact mr_|exact mn_|refine mi_ ?_ ?_|refine mb_ ?_ (fun _=>?_))
theorem spec_SameRule.mono:∀a0 a1 k,LeO (spec_SameRule.f k a0 a1) (spec_SameRule.f (k+1) a0 a1):=by
 intro a0 a1 k;have ih0:=spec_SameRule.mono_l k;unfold spec_SameRule.f;repeat' (with_reducible first|exact ih0 _ _ _ _|exact mr_|exact mn_|refine mi_ ?_ ?_|refine mb_ ?_ (fun _=>?_))
theorem spec_SameRule.calls (k:Nat) (a0:Int) (a1:Int) (r:List (List Int)) (w:World) (h:spec_SameRule.f k a0 a1=some r) :
  Calls Tryz.prog 121 #[.int .i64 a0,.int .i64 a1] w fun e w'=>∃v0_:Value,e=.returned (v0_)∧Kd.S (Kd.slice 3 (Kd.int .i64)) 33 w' w.heap.size (fun _=>True) v0_ r∧Below w.heap.size w w':=by
 have HB:=A_ (Below.refl w.heap.size w);have H:(spec_SameRule.l0 k a0 a1 (([]:List (List Int))) 0)=some r:=h;clear h;obtain ⟨bg,aC⟩:∃y_:List (List Int),y_=(([]:List (List Int))):=⟨_,rfl⟩
 replace H:(spec_SameRule.l0 k a0 a1 bg 0)=some r:=yq_ aC H;have aV:=A_ aC;clear aC;have H':=A_ H;clear H;go_enter Tryz.func121,Tryz.ntmps121;go_wp2_with (first|((with_reducible refine gate_dst (N:=8) rfl ?_);refine Kd.S_lit (Kd.slice 3 (Kd.int .i64)) _ 33 ?hg (N:=8) ?hd (xs:=([]:List (List Int))) (inner:=[]) (ok:=fun _=>True) (okp:=fun _=>True) ?hr ?hp (fun _ hk=>hk) trivial (Below.refl _ _) (Nat.le_refl _) (by simp) ?_;(case hd=>rfl);(case hg=>rfl);(case hr=>first|(go_simp;done)|(go_simp;rfl));(case hp=>exact (Reps.none _ _));intro bG w3 ho4 hb hg_ hnew_;clear hg_ hnew_;(first|rw [←aV.out] at ho4|(simp only [Int.reduceToNat] at ho4;rw [←aV.out] at ho4));have bh:=A_ (Kd.S_lower ho4 (below_size (tb_ HB.out)));replace HB:=bs_ HB hb;clear hb ho4))
 go_loopg [5,6] k (fun kq v5 v6 w'=>∃(aa:List (List Int)) (ab:Int),v6=.int .i64 ab∧Aside0 (spec_SameRule.l0 kq a0 a1 aa ab=some r)∧Aside0 (kq≤k)∧Aside0 (Kd.S (Kd.slice 3 (Kd.int .i64)) 33 w' w.heap.size (fun _=>True) v5 aa)∧Aside0 (Below w.heap.size w w'))
 case atStart=>exact ⟨(bg),(0),tx_,H',⟨Nat.le_refl _⟩,⟨rS_ bh.out⟩,⟨(tb_ HB.out)⟩⟩
 case round =>
  clear H';obtain ⟨aa,ab,rfl,HA,HK1,af,HB⟩:=hrel
  cases gk with
  |zero=>exact absurd HA.out (by simp [spec_SameRule.l0])
  |succ k1 =>
   have H:=HA.out;clear HA;simp only [spec_SameRule.l0] at H;replace H:=it_ H;rcases H with ⟨av,H⟩|⟨av,H⟩
   ·
    obtain ⟨a6,A6,H⟩:=bnd_ H;(try dsimp only at H);by_cases c7:a6=true
    ·
     subst c7;replace H:((spec_l1In.f a1 (-1) 3).bind fun aA=>(if aA=true then (if 0≤a0 then (if (a0:Int).toNat≤35184372088832 then ((some (List.replicate (a0:Int).toNat 0:List Int)).bind fun ad=>(if 0≤ab then (if ab<(ad.length:Int) then (if aa.length<5864062014805 then (spec_SameRule.l0 k1 a0 a1 (aa++[(ad.set (ab:Int).toNat a1)]) (wrap64 (ab+1))) else (none)) else (none)) else (none))) else (none)) else (none)) else (some aa)))=some r:=by rw [if_pos rfl] at H;exact H
     obtain ⟨aA,A8,H⟩:=bnd_ H;(try dsimp only at H);by_cases c9:aA=true
     ·
      subst c9;replace H:(if 0≤a0 then (if (a0:Int).toNat≤35184372088832 then ((some (List.replicate (a0:Int).toNat 0:List Int)).bind fun ad=>(if 0≤ab then (if ab<(ad.length:Int) then (if aa.length<5864062014805 then (spec_SameRule.l0 k1 a0 a1 (aa++[(ad.set (ab:Int).toNat a1)]) (wrap64 (ab+1))) else (none)) else (none)) else (none))) else (none)) else (none))=some r:=by rw [if_pos rfl] at H;exact H
      replace H:=i0_ H;obtain ⟨c10,H⟩:=H;have be:=eq_true c10;have bx:decide (0≤a0)=true:=decide_eq_true c10;clear c10;replace H:=i0_ H;obtain ⟨c11,H⟩:=H;have bf:=eq_true c11;have bz:decide ((a0:Int).toNat≤35184372088832)=true:=decide_eq_true c11;clear c11;obtain ⟨ad,aD⟩:∃y_:List Int,y_=(List.replicate (a0:Int).toNat 0):=⟨_,rfl⟩
      replace H:(if 0≤ab then (if ab<(ad.length:Int) then (if aa.length<5864062014805 then (spec_SameRule.l0 k1 a0 a1 (aa++[(ad.set (ab:Int).toNat a1)]) (wrap64 (ab+1))) else (none)) else (none)) else (none))=some r:=yq_ aD H;have aW:=A_ aD;clear aD;replace H:=in_ H;obtain ⟨aU,H⟩:=H;replace H:=in_ H;obtain ⟨bB,H⟩:=H;obtain ⟨aN,aE⟩:∃y_:List Int,y_=(ad.set (ab:Int).toNat a1):=⟨_,rfl⟩
      replace H:(if aa.length<5864062014805 then (spec_SameRule.l0 k1 a0 a1 (aa++[aN]) (wrap64 (ab+1))) else (none))=some r:=yq_ aE H;have bi:=A_ aE;clear aE;replace H:=il_ H;obtain ⟨bj,H⟩:=H;obtain ⟨bk,aG⟩:∃y_:List (List Int),y_=(aa++[aN]):=⟨_,rfl⟩
      replace H:(spec_SameRule.l0 k1 a0 a1 bk (wrap64 (ab+1)))=some r:=yq_ aG H;have bl:=A_ aG;clear aG;have H':=A_ H;clear H;go_wp2_with (first|(go_at_call 69;(with_reducible refine (spec_l1In.calls a0 1 3 true _ A6.out).mono ?_);rintro e w' ⟨rfl,⟨nd,rfl⟩⟩;(try (rw [drewN_self wr];generalize hq_:World.drewN wr _=wr;have n0_:Aside0 (Kd.S (Kd.slice 3 (Kd.int .i64)) 33 wr w.heap.size (fun _=>True) u5 aa):=⟨by rw [←hq_];exact (rS_ af.out)⟩;have n1_:Aside0 (Below w.heap.size w wr):=⟨by rw [←hq_];exact (tb_ HB.out)⟩;clear af HB hq_;have af:=n0_;have HB:=n1_;clear n0_ n1_)))|(go_at_call 69;(with_reducible refine (spec_l1In.calls a1 (-1) 3 true _ A8.out).mono ?_);rintro e w' ⟨rfl,⟨nd,rfl⟩⟩;(try (rw [drewN_self wr];generalize hq_:World.drewN wr _=wr;have n0_:Aside0 (Kd.S (Kd.slice 3 (Kd.int .i64)) 33 wr w.heap.size (fun _=>True) u5 aa):=⟨by rw [←hq_];exact (rS_ af.out)⟩;have n1_:Aside0 (Below w.heap.size w wr):=⟨by rw [←hq_];exact (tb_ HB.out)⟩;clear af HB hq_;have af:=n0_;have HB:=n1_;clear n0_ n1_)))|((with_reducible refine gate_dst (N:=23) rfl ?_);refine Kd.R_make (Kd.int .i64) _ 3 rfl (N:=23) rfl 33 _ _ rfl a0 rfl rfl Tryz.underlying33 (.int .i64 0) 8 info3 rfl (by decide) (by omega) 0 (ok:=fun _=>True) (okp:=fun _=>True) rfl (fun _ hk=>hk) trivial (od_) (Nat.le_trans (Nat.mul_le_mul_right _ (od_:a0.toNat≤35184372088832)) (by omega)) (Below.refl _ _) (Nat.le_refl _) ?_;intro bH bC ho17 hb hg_ hnew_;clear hg_ hnew_;(first|rw [←aW.out] at ho17|(simp only [Int.reduceToNat] at ho17;rw [←aW.out] at ho17));replace af:=A_ (Kd.S_elder' (rS_ af.out) (Kd.R_base ho17) hb);have ag:=rx_ ho17 HB;replace HB:=bs_ HB hb;clear hb ho17;have p14:0≤(ab:Int):=od_;have q14:(ab:Int)<((ad.length:Int):Int):=od_;obtain ⟨go14,aH,bm,bn,gl14,cl14,HG14⟩:=Kd.R_form ag.out (by omega);(first|cases bm|(injection bm with ea_ en_ ec_;(first|subst ea_|(injection ea_ with ea_;subst ea_));subst ec_;clear en_));have GB14:=A_ bn;have GG14:=A_ HG14;clear bn gl14 HG14;obtain ⟨bv,hf14_0⟩:=Kd.R_celln 0 ag.out (ab:Int) p14 q14;replace p14:=eq_true p14;replace q14:=eq_true q14;obtain ⟨hy18_,hz18_⟩:=Kd.R_celln 0 ag.out (ab:Int) (od_) (od_);have HP18:=Kd.R_putg ag.out (ab:Int) a1)|((with_reducible refine gate_store (t:=3) (p:=27) rfl ?_);refine store_event (t:=3) (p:=27) (v:=?vo_w19) (w1:=(bC.setCell ⟨go14,(ab:Int).toNat,none⟩ (.int .i64 a1))) ?hg ?ho ?hn ?hr ?_;(case ho=>rfl);(case hg=>rfl);(case hn=>rfl);(case hr=>first|(go_simp;done)|(go_simp;rfl));intro bw hw;have hg:bC.grownBy bw (some go14):=(by rw [hw];exact HP18.2);have hp_:Kd.R (Kd.int .i64) 3 bw w.heap.size (fun _=>True) (.slice (some ⟨go14,0,none⟩) ad.length aH) aN:=(by rw [hw,bi.out];exact HP18.1);clear HP18;replace af:=A_ (Kd.S_after (v:=(.slice (some ⟨go14,0,none⟩) ad.length aH)) (v1:=(.slice (some ⟨go14,0,none⟩) ad.length aH)) (ok:=(fun _=>True)) (rS_ af.out) hg (.inl rfl));replace ag:=A_ (hp_);replace HB:=A_ ((by rw [hw];exact below_set (HB.out) GB14.out:Below w.heap.size w bw));clear hg hw hp_)|((with_reducible refine gate_builtin (b:=.append) (xs:=#[.tmp 28,.tmp 30]) rfl ?_);at_builtin;refine Kd.S_append (Kd.slice 3 (Kd.int .i64)) (w0:=w) w.heap.size rfl (.tmp 28) (.tmp 30) 118 33 (.slice none 0 0) 24 rfl Tryz.underlying118 info33 rfl (by decide) (by omega) u5 aa aN [.slice (some ⟨go14,0,none⟩) ad.length aH] (fun _=>True) (fun k_=>some k_=(.slice (some ⟨go14,0,none⟩) ad.length aH:Value).ownBlock) rfl rfl ?aP (fun k_ hk_=>((Kd.R_mono (ok':=fun k_=>((fun _=>True)) k_∧some k_≠(u5:Value).ownBlock) (Kd.R_apart' (ag.out) (Kd.S_typed af.out) (by decide)) (fun k_ hk=>⟨trivial,hk.2⟩))).1 k_ hk_.symm) ?aF ?aO ?aB ?aS ?aL ?_;(case aP=>exact Kd.M_row (Kd.R_mono (Kd.R_tight rfl (Kd.R_mono (ok':=fun k_=>((fun _=>True)) k_∧some k_≠(u5:Value).ownBlock) (Kd.R_apart' (ag.out) (Kd.S_typed af.out) (by decide)) (fun k_ hk=>⟨trivial,hk.2⟩))) (fun _ h_=>h_)));(case aB=>exact (tb_ HB.out));(case aF=>exact (fun _ _=>trivial));(case aO=>exact (by refine qS_ ?_;exact Kd.S_mono af.out (fun k_ hk=>⟨trivial,fun e_=>hk.2 e_⟩)));(case aS=>exact (below_size (tb_ HB.out)));(case aL=>have:=bj.out;omega);intro bI bM ho hb hg hat;rw [←bl.out] at ho;replace HB:=A_ (hb);have bo:=A_ (ho);clear af ag ho hb hg hat))
      go_roundg k1
      case measure=>have:=HK1.out;omega
      case rel=>exact ⟨(bk),(wrap64 (ab+1)),tx_,H',⟨by have:=HK1.out;omega⟩,⟨rS_ bo.out⟩,⟨(tb_ HB.out)⟩⟩
     ·
      replace c9:=Bool.eq_false_iff.mpr c9;subst c9;replace H:(some aa)=some r:=by rw [if_neg (show ¬(false=true) by decide)] at H;exact H
      obtain rfl:=Option.some.inj H;go_wp2_with (first|(go_at_call 69;(with_reducible refine (spec_l1In.calls a0 1 3 true _ A6.out).mono ?_);rintro e w' ⟨rfl,⟨nd,rfl⟩⟩)|(go_at_call 69;(with_reducible refine (spec_l1In.calls a1 (-1) 3 false _ A8.out).mono ?_);rintro e w' ⟨rfl,⟨nd,rfl⟩⟩));go_ret;exact ⟨_,tw_,by refine qS_ ?_;exact af.out,(tb_ HB.out)⟩
    ·
     replace c7:=Bool.eq_false_iff.mpr c7;subst c7;replace H:(some aa)=some r:=by rw [if_neg (show ¬(false=true) by decide)] at H;exact H
     obtain rfl:=Option.some.inj H;go_wp2_with (first|(go_at_call 69;(with_reducible refine (spec_l1In.calls a0 1 3 false _ A6.out).mono ?_);rintro e w' ⟨rfl,⟨nd,rfl⟩⟩));go_ret;exact ⟨_,tw_,by refine qS_ ?_;exact af.out,(tb_ HB.out)⟩
   ·
    obtain rfl:=Option.some.inj H;go_wp2;go_ret;exact ⟨_,tw_,by refine qS_ ?_;exact af.out,(tb_ HB.out)⟩
def spec_PlaceOk.j0:Nat→Bool→List Int→Int→List Int→Option (Bool)
 |0,_,_,_,_=>none
 |k+1,x14,an,aQ,aR=>if x14=true then (some false) else ((spec_SameRule.f k (an.length:Int) aQ).bind fun bp=>((spec_AfterWord.f k an bp aR).bind fun bq=>(some bq.2)))
def spec_PlaceOk.f (k:Nat) (ai:List Int) (a0_1:Int) (aj:List Int):Option (Bool):=(spec_StartOk.f k ai).bind fun a7=>(if a7=true then ((spec_l1In.f a0_1 (-1) 3).bind fun a8=>(spec_PlaceOk.j0 k (!a8) ai a0_1 aj)) else (spec_PlaceOk.j0 k true ai a0_1 aj))
def spec_PlaceOk.T3:Bool×List (List Nat×List Nat):=(true,[([],[]),([0],[0]),([],[]),([2],[2]),([3],[3]),([],[]),([5],[5]),([4,6],[4,6]),([],[]),([8],[8]),([1,7,9,7],[1,7,9]),([10],[10]),([11],[11]),([11],[11]),([12,10,0,1,2,3,4,5,6,7,8,9,10,11,12],[12]),([13,14,0,1,2,3,4,5,6,7,8,9,10,11,12,13,14],[13])])
def spec_PlaceOk.B3:List Nat:=[0,1,0,4,12,0,32,124,0,256,1023,2047,4095,4095,8191,32767]
theorem spec_PlaceOk.tab3:rtab .any (opsOf Tryz.f94 3)=spec_PlaceOk.T3:=by kernel_rfl
theorem spec_PlaceOk.bits3:waitsOk spec_PlaceOk.T3.2 spec_PlaceOk.B3=true:=by kernel_rfl
theorem spec_PlaceOk.z0 {P_:Prop} (h_:P_:=by go_wp2_with (first|((with_reducible refine gate_callee (f:=119) rfl ?_);refine ca_ (some 7) Tryz.func119 _ (spec_StartOk.calls k ar au _ _ _ (gt_ st) (gt_ st) A_7.out) ?_;rintro e w_ ⟨rfl,hb⟩;refine ⟨_,rfl,?_⟩;replace hb:=hb.below;replace st:=st.ev hb;clear cl hb;have cl:=cl_ st)|((with_reducible refine gate_callee (f:=69) rfl ?_);refine gate_guard (by rfl) ?_;dsimp only;refine ca_ (some 12) Tryz.func69 _ (spec_l1In.calls _ _ _ _ _ A_12.out) ?_;rintro e w_ ⟨rfl,hb⟩;refine ⟨_,rfl,?_⟩;replace hb:=hb.below;replace st:=st.ev hb;clear cl hb;have cl:=cl_ st));first|(go_meet;(case rel=>exact ⟨_,(!a8),tx_,H',⟨by first|omega|exact Nat.le_refl _⟩,st.en⟩))|(go_meet;(case rel=>exact ⟨_,(true),tx_,H',⟨by first|omega|exact Nat.le_refl _⟩,st.en⟩))):P_:=h_
theorem spec_PlaceOk.calls (k:Nat) (ar:Option Addr) (au:Nat) (ai:List Int) (a0_1:Int) (aI:Option Addr) (aJ:Nat) (aj:List Int) (r:Bool) (w:World) (hr0_0:Kd.C (Kd.int .i64) w ar ai.length ai) (hc0_0:ai.length≤au) (hr0_2:Kd.C (Kd.int .i64) w aI aj.length aj) (hc0_2:aj.length≤aJ) (h:spec_PlaceOk.f k ai a0_1 aj=some r) :
  Calls Tryz.prog 94 #[.agg #[.slice ar ai.length au,.int .i64 a0_1,.slice aI aj.length aJ]] w fun e w'=>e=.returned (.bool r)∧Below w.heap.size w w':=by
 have hu35:=Tryz.underlying35;have st:=((ST.nil w).c hr0_0 hc0_0).c hr0_2 hc0_2;have s0:=st;have cl:=cl_ st;have H:=h;clear h;unfold spec_PlaceOk.f at H;go_enter Tryz.func94,Tryz.ntmps94;have HC3:=A_ H;clear H
 go_upto_region 1 with (first|((with_reducible refine gate_dst (N:=1) rfl ?_);refine al_ st ?_;clear st cl;intro g1 w_ st;have cl:=cl_ st))
 (try simp only [Act.put,sa_,sb_,sc_])
 go_cut [14] (fun bJ wc=>∃(kq:Nat) (ao:Bool),bJ=.bool ao∧Aside0 (spec_PlaceOk.j0 kq ao ai a0_1 aj=some r)∧Aside0 (kq≤k)∧ST w [CA (Kd.int .i64) w ar ai au,CA (Kd.int .i64) w aI aj aJ] [Bx g1 #[.slice ar ai.length au,.int .i64 a0_1,.slice aI aj.length aJ] 35] wc)
 case first =>
  have H:=HC3.out;clear HC3;obtain ⟨a7,A_7,H⟩:=bnd_ H;rcases bx_ a7 with rfl|rfl
  ·
   replace H:=bt_ H;obtain ⟨a8,A_12,H⟩:=bnd_ H;have H':=A_ H;clear H;exact spec_PlaceOk.z0
  ·
   replace H:=bf_ H;have H':=A_ H;clear H;exact spec_PlaceOk.z0
 case rest =>
  clear HC3 st cl;obtain ⟨kq,ao,rfl,HA,HJ2,st⟩:=hcut;have cl:=cl_ st
  cases kq with
  |zero=>exact absurd HA.out (by simp [spec_PlaceOk.j0])
  |succ kj2 =>
   have H:=HA.out;clear HA;simp only [spec_PlaceOk.j0] at H;rcases bx_ ao with rfl|rfl
   ·
    replace H:=bt_ H;obtain rfl:=Option.some.inj H;go_wp2;go_ret;exact ⟨tw_,st.b⟩
   ·
    replace H:=bf_ H;obtain ⟨bp,A_23,H⟩:=bnd_ H;obtain ⟨⟨bK,bL⟩,A_26,H⟩:=bnd_ H;(try dsimp only at H);obtain rfl:=Option.some.inj H;(try go_wp2);(all_goals (refine rg_ st [] ?_;clear st cl;intro w_ st hs;have cl:=cl_ st;refine with_tabW spec_PlaceOk.tab3 spec_PlaceOk.bits3 (fun HT_ HW_=>?_);refine pv_ 0 ?_;refine pv_ 2 ?_;refine pv_ 5 ?_;refine pv_ 8 ?_;refine tu_ 1 ?_;refine tu_ 3 ?_;refine tu_ 6 ?_;refine tu_ 9 ?_;refine pv_ 4 ?_;refine ov_ 7 (fun K hK=>?_);refine ca2_ (some 23) Tryz.func121 _ (spec_SameRule.calls kj2 _ _ _ _ A_23.out) ?_;rintro e w_ ⟨v0,rfl,h0,hb⟩;refine ⟨_,rfl,?_⟩;obtain ⟨B23_0,d23_0,rfl⟩:=Kd.S_slice h0;replace st:=st.p1 hb (st.ms h0);clear cl hb h0;have cl:=cl_ st;refine hK.out _ _ st.en (fun hs=>?_);clear hK K;refine nr_ 23 ?_;refine ov_ 10 (fun K hK=>?_);refine ca2_ (some 26) Tryz.func120 _ (spec_AfterWord.calls kj2 ar au _ B23_0 d23_0 _ aI aJ _ _ _ _ (gt_ st) (gt_ st) (gt_ st) (gt_ st) (gt_ st) (gt_ st) A_26.out) ?_;rintro e w_ ⟨v0,rfl,h0,hb⟩;refine ⟨_,rfl,?_⟩;obtain ⟨B26_0,d26_0,rfl⟩:=Kd.R_slice h0;replace st:=st.p1 hb (st.mr h0);clear cl hb h0;have cl:=cl_ st;refine hK.out _ _ st.en (fun hs=>?_);clear hK K;refine nr_ 26 ?_;refine pv_ 11 ?_;refine pv_ 12 ?_;refine pv_ 13 ?_;refine pv_ 14 ?_;refine pv_ 15 ?_;refine done_ (done_of HT_.out (by kernel_rfl)) ?_;all_goals (try go_wp2)));go_ret;exact ⟨tw_,st.b⟩
end Go.Proofs.YtopboabeigakoaaGreatDoor.MFnStoreSave
