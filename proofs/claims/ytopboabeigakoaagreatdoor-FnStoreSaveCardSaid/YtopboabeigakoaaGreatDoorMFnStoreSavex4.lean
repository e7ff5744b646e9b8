/- For the law FnStoreSave: walks of the functions that it reaches: each call returns what the plain function beside it tells. The conditions stand in each statement. -/
import Derived.Test.YtopboabeigakoaaGreatDoorV
import Derived.Test.YtopboabeigakoaaGreatDoorMFnStoreSavex0
import Derived.Test.YtopboabeigakoaaGreatDoorMFnStoreSavex3
namespace Go.Proofs.YtopboabeigakoaaGreatDoor.MFnStoreSave
open Go.RowKit Go.Proofs.YtopboabeigakoaaGreatDoorW.PrintWords Go.Proofs.YtopboabeigakoaaGreatDoorW.PrintLast Go.Proofs.YtopboabeigakoaaGreatDoorW.PrintMore
attribute [local go_sem] max2_int min2_int max_two min_two max_three min_three max_four min_four   -- for this text's walks alone
set_option linter.unusedVariables false
set_option linter.unusedSimpArgs false
set_option maxHeartbeats 8000000
set_option maxRecDepth 100000
mutual
def impl_SameRule.j0:Nat→Int→Int→Bool→Option ((List (List Int)))
 |0,_,_,_=>none
 |k+1,x0,x1,x18=>if x18=true then (some ([]:List (List Int))) else (impl_SameRule.l0 k x0 x1 (([]:List (List Int))) x0 0)
def impl_SameRule.l0:Nat→Int→Int→List (List Int)→Int→Int→Option ((List (List Int)))
 |0,_,_,_,_,_=>none
 |k+1,x0,x1,x5,x20,x21=>if x21<x20 then (if 0≤x0 then (if (x0:Int).toNat≤35184372088832 then ((some (List.replicate (x0:Int).toNat 0:List Int)).bind fun ac=>(if 0≤x21 then (if x21<(ac.length:Int) then (if x5.length<5864062014805 then (impl_SameRule.l0 k x0 x1 (x5++[(ac.set (x21:Int).toNat x1)]) x20 (wrap64 (x21+1))) else (none)) else (none)) else (none))) else (none)) else (none)) else (some x5)
end
def impl_SameRule.f (k:Nat) (a0:Int) (a1:Int):Option ((List (List Int))):=(impl_coloursOk.f a0).bind fun av=>(if av=true then (if a1<(-1) then (impl_SameRule.j0 k a0 a1 true) else (impl_SameRule.j0 k a0 a1 (decide (a1>3)))) else (impl_SameRule.j0 k a0 a1 true))
theorem impl_SameRule.mono_l:∀k,(∀y0 y1 y2,LeO (impl_SameRule.j0 k y0 y1 y2) (impl_SameRule.j0 (k+1) y0 y1 y2))∧(∀y0 y1 y2 y3 y4,LeO (impl_SameRule.l0 k y0 y1 y2 y3 y4) (impl_SameRule.l0 (k+1) y0 y1 y2 y3 y4))
 |0=>⟨fun _ _ _ r h=>by simp [impl_SameRule.j0] at h,fun _ _ _ _ _ r h=>by simp [impl_SameRule.l0] at h⟩
 |k+1=>by
  obtain ⟨ih0,ih1⟩:=impl_SameRule.mono_l k
  refine ⟨?_,?_⟩
  ·
   intro y0 y1 y2
   unfold impl_SameRule.j0
   repeat' (with_reducible first|exact ih0 _ _ _|exact ih1 _ _ _ _ _|exact mr_|exact mn_|refine mi_ ?_ ?_|refine mb_ ?_ (fun _=>?_))
  ·
   intro y0 y1 y2 y3 y4
   unfold impl_SameRule.l0
   repeat' (with_reducible first|exact ih0 _ _ _|exact ih1 _ _ _ _ _|exact mr_|exact mn_|refine mi_ ?_ ?_|refine mb_ ?_ (fun _=>?_))
theorem impl_SameRule.mono:∀a0 a1 k,LeO (impl_SameRule.f k a0 a1) (impl_SameRule.f (k+1) a0 a1):=by
 intro a0 a1 k;obtain ⟨ih0,ih1⟩:=impl_SameRule.mono_l k;unfold impl_SameRule.f;repeat' (with_reducible first|exact ih0 _ _ _|exact ih1 _ _ _ _ _|exact mr_|exact mn_|refine mi_ ?_ ?_|refine mb_ ?_ (fun _=>?_))
theorem impl_SameRule.calls (k:Nat) (a0:Int) (a1:Int) (r:List (List Int)) (w:World) (h:impl_SameRule.f k a0 a1=some r) :
  Calls Tryz.prog 104 #[.int .i64 a0,.int .i64 a1] w fun e w'=>∃v0_:Value,e=.returned (v0_)∧Kd.S (Kd.slice 3 (Kd.int .i64)) 33 w' w.heap.size (fun _=>True) v0_ r∧Below w.heap.size w w':=by
 have HB:=A_ (Below.refl w.heap.size w);have H:((impl_coloursOk.f a0).bind fun av=>(if av=true then (if a1<(-1) then (impl_SameRule.j0 k a0 a1 true) else (impl_SameRule.j0 k a0 a1 (decide (a1>3)))) else (impl_SameRule.j0 k a0 a1 true)))=some r:=h;clear h;have HC3:=A_ H;clear H;go_enter Tryz.func104,Tryz.ntmps104
 go_upto_region 1 with (fail)
 go_cut [18] (fun bl wc=>∃(kq:Nat) (al:Bool),bl=.bool al∧Aside0 (impl_SameRule.j0 kq a0 a1 al=some r)∧Aside0 (kq≤k)∧Aside0 (Below w.heap.size w wc))
 case first =>
  have H:=HC3.out;clear HC3;obtain ⟨av,A4,H⟩:=bnd_ H;(try dsimp only at H);by_cases c5:av=true
  ·
   subst c5;replace H:(if a1<(-1) then (impl_SameRule.j0 k a0 a1 true) else (impl_SameRule.j0 k a0 a1 (decide (a1>3))))=some r:=by rw [if_pos rfl] at H;exact H
   replace H:=it_ H;rcases H with ⟨ak,H⟩|⟨ak,H⟩
   ·
    (first|rw [ak]|(simp only [i64_w,i32_w];rw [ak])|skip);have H':=A_ H;clear H;go_wp2_with (first|((with_reducible refine gate_callee (f:=89) rfl ?_);refine gl_ (some 9) Tryz.func89 #[.int .i64 a0] ?_;(with_reducible refine (impl_coloursOk.calls a0 true _ A4.out).mono ?_);rintro e w' ⟨rfl,⟨nd,rfl⟩⟩;refine ⟨_,rfl,?_⟩));go_meet
    case rel=>exact ⟨_,(true),tx_,H',⟨by first|omega|exact Nat.le_refl _⟩,⟨(tb_ HB.out)⟩⟩
   ·
    (first|rw [ak]|(simp only [i64_w,i32_w];rw [ak])|skip);have H':=A_ H;clear H;go_wp2_with (first|((with_reducible refine gate_callee (f:=89) rfl ?_);refine gl_ (some 9) Tryz.func89 #[.int .i64 a0] ?_;(with_reducible refine (impl_coloursOk.calls a0 true _ A4.out).mono ?_);rintro e w' ⟨rfl,⟨nd,rfl⟩⟩;refine ⟨_,rfl,?_⟩));go_meet
    case rel=>exact ⟨_,(decide (a1>3)),tx_,H',⟨by first|omega|exact Nat.le_refl _⟩,⟨(tb_ HB.out)⟩⟩
  ·
   replace c5:=Bool.eq_false_iff.mpr c5;subst c5;replace H:(impl_SameRule.j0 k a0 a1 true)=some r:=by rw [if_neg (show ¬(false=true) by decide)] at H;exact H
   have H':=A_ H;clear H;go_wp2_with (first|((with_reducible refine gate_callee (f:=89) rfl ?_);refine gl_ (some 9) Tryz.func89 #[.int .i64 a0] ?_;(with_reducible refine (impl_coloursOk.calls a0 false _ A4.out).mono ?_);rintro e w' ⟨rfl,⟨nd,rfl⟩⟩;refine ⟨_,rfl,?_⟩));go_meet
   case rel=>exact ⟨_,(true),tx_,H',⟨by first|omega|exact Nat.le_refl _⟩,⟨(tb_ HB.out)⟩⟩
 case rest =>
  clear HC3;obtain ⟨kq,al,rfl,HA,HJ2,HB⟩:=hcut
  cases kq with
  |zero=>exact absurd HA.out (by simp [impl_SameRule.j0])
  |succ kj2 =>
   have H:=HA.out;clear HA;simp only [impl_SameRule.j0] at H;by_cases c7:al=true
   ·
    subst c7;replace H:(some ([]:List (List Int)))=some r:=by rw [if_pos rfl] at H;exact H
    obtain rfl:=Option.some.inj H;go_wp2;go_ret;exact ⟨_,tw_,by first|exact Kd.S_nil _ _ _ _ _|exact Kd.N_nil _ _ _ _ _|exact Kd.V_nil _ _ _ _ _|exact Kd.Q_nil _ _ _ _ _|exact Kd.R_nil _ _ _ _ _,(tb_ HB.out)⟩
   ·
    replace c7:=Bool.eq_false_iff.mpr c7;subst c7;replace H:(impl_SameRule.l0 kj2 a0 a1 (([]:List (List Int))) a0 0)=some r:=by rw [if_neg (show ¬(false=true) by decide)] at H;exact H
    obtain ⟨aQ,aw⟩:∃y_:List (List Int),y_=(([]:List (List Int))):=⟨_,rfl⟩
    replace H:(impl_SameRule.l0 kj2 a0 a1 aQ a0 0)=some r:=yq_ aw H;have aJ:=A_ aw;clear aw;have H':=A_ H;clear H;go_wp2_with (first|((with_reducible refine gate_dst (N:=19) rfl ?_);refine Kd.S_lit (Kd.slice 3 (Kd.int .i64)) _ 33 ?hg (N:=19) ?hd (xs:=([]:List (List Int))) (inner:=[]) (ok:=fun _=>True) (okp:=fun _=>True) ?hr ?hp (fun _ hk=>hk) trivial (Below.refl _ _) (Nat.le_refl _) (by simp) ?_;(case hd=>rfl);(case hg=>rfl);(case hr=>first|(go_simp;done)|(go_simp;rfl));(case hp=>exact (Reps.none _ _));intro bm w8 ho9 hb hg_ hnew_;clear hg_ hnew_;(first|rw [←aJ.out] at ho9|(simp only [Int.reduceToNat] at ho9;rw [←aJ.out] at ho9));have aR:=A_ (Kd.S_lower ho9 (below_size (tb_ HB.out)));replace HB:=bs_ HB hb;clear hb ho9))
    go_loopg [5,21] kj2 (fun kq v5 bn w'=>∃(ah:List (List Int)) (aa:Int),bn=.int .i64 aa∧Aside0 (impl_SameRule.l0 kq a0 a1 ah a0 aa=some r)∧Aside0 (kq≤kj2)∧Aside0 (Kd.S (Kd.slice 3 (Kd.int .i64)) 33 w' w.heap.size (fun _=>True) v5 ah)∧Aside0 (Below w.heap.size w w'))
    case atStart=>exact ⟨(aQ),(0),tx_,H',⟨Nat.le_refl _⟩,⟨rS_ aR.out⟩,⟨(tb_ HB.out)⟩⟩
    case round =>
     clear H';(try clear c7);obtain ⟨ah,aa,rfl,HA,HK2,ai,HB⟩:=hrel
     cases gk with
     |zero=>exact absurd HA.out (by simp [impl_SameRule.l0])
     |succ k2 =>
      have H:=HA.out;clear HA;simp only [impl_SameRule.l0] at H;replace H:=it_ H;rcases H with ⟨aU,H⟩|⟨aU,H⟩
      ·
       replace H:=i0_ H;obtain ⟨c11,H⟩:=H;have be:=eq_true c11;have bf:decide (0≤a0)=true:=decide_eq_true c11;clear c11;replace H:=i0_ H;obtain ⟨c12,H⟩:=H;have bg:=eq_true c12;have bh:decide ((a0:Int).toNat≤35184372088832)=true:=decide_eq_true c12;clear c12;obtain ⟨ac,ax⟩:∃y_:List Int,y_=(List.replicate (a0:Int).toNat 0):=⟨_,rfl⟩
       replace H:(if 0≤aa then (if aa<(ac.length:Int) then (if ah.length<5864062014805 then (impl_SameRule.l0 k2 a0 a1 (ah++[(ac.set (aa:Int).toNat a1)]) a0 (wrap64 (aa+1))) else (none)) else (none)) else (none))=some r:=yq_ ax H;have aK:=A_ ax;clear ax;replace H:=in_ H;obtain ⟨bi,H⟩:=H;replace H:=in_ H;obtain ⟨bj,H⟩:=H;obtain ⟨aE,ay⟩:∃y_:List Int,y_=(ac.set (aa:Int).toNat a1):=⟨_,rfl⟩
       replace H:(if ah.length<5864062014805 then (impl_SameRule.l0 k2 a0 a1 (ah++[aE]) a0 (wrap64 (aa+1))) else (none))=some r:=yq_ ay H;have aV:=A_ ay;clear ay;replace H:=il_ H;obtain ⟨aW,H⟩:=H;obtain ⟨aX,az⟩:∃y_:List (List Int),y_=(ah++[aE]):=⟨_,rfl⟩
       replace H:(impl_SameRule.l0 k2 a0 a1 aX a0 (wrap64 (aa+1)))=some r:=yq_ az H;have aY:=A_ az;clear az;have H':=A_ H;clear H;go_wp2_with (first|((with_reducible refine gate_dst (N:=25) rfl ?_);refine Kd.R_make (Kd.int .i64) _ 3 rfl (N:=25) rfl 33 _ _ rfl a0 rfl rfl Tryz.underlying33 (.int .i64 0) 8 info3 rfl (by decide) (by omega) 0 (ok:=fun _=>True) (okp:=fun _=>True) rfl (fun _ hk=>hk) trivial (od_) (Nat.le_trans (Nat.mul_le_mul_right _ (od_:a0.toNat≤35184372088832)) (by omega)) (Below.refl _ _) (Nat.le_refl _) ?_;intro bo bk ho18 hb hg_ hnew_;clear hg_ hnew_;(first|rw [←aK.out] at ho18|(simp only [Int.reduceToNat] at ho18;rw [←aK.out] at ho18));replace ai:=A_ (Kd.S_elder' (rS_ ai.out) (Kd.R_base ho18) hb);have af:=rx_ ho18 HB;replace HB:=bs_ HB hb;clear hb ho18;have p15:0≤(aa:Int):=od_;have q15:(aa:Int)<((ac.length:Int):Int):=od_;obtain ⟨go15,aA,aZ,a3,gl15,cl15,HG15⟩:=Kd.R_form af.out (by omega);(first|cases aZ|(injection aZ with ea_ en_ ec_;(first|subst ea_|(injection ea_ with ea_;subst ea_));subst ec_;clear en_));have GB15:=A_ a3;have GG15:=A_ HG15;clear a3 gl15 HG15;obtain ⟨a9,hf15_0⟩:=Kd.R_celln 0 af.out (aa:Int) p15 q15;replace p15:=eq_true p15;replace q15:=eq_true q15;obtain ⟨hy19_,hz19_⟩:=Kd.R_celln 0 af.out (aa:Int) (od_) (od_);have HP19:=Kd.R_putg af.out (aa:Int) a1)|((with_reducible refine gate_store (t:=3) (p:=29) rfl ?_);refine store_event (t:=3) (p:=29) (v:=?vo_w20) (w1:=(bk.setCell ⟨go15,(aa:Int).toNat,none⟩ (.int .i64 a1))) ?hg ?ho ?hn ?hr ?_;(case ho=>rfl);(case hg=>rfl);(case hn=>rfl);(case hr=>first|(go_simp;done)|(go_simp;rfl));intro bb hw;have hg:bk.grownBy bb (some go15):=(by rw [hw];exact HP19.2);have hp_:Kd.R (Kd.int .i64) 3 bb w.heap.size (fun _=>True) (.slice (some ⟨go15,0,none⟩) ac.length aA) aE:=(by rw [hw,aV.out];exact HP19.1);clear HP19;replace ai:=A_ (Kd.S_after (v:=(.slice (some ⟨go15,0,none⟩) ac.length aA)) (v1:=(.slice (some ⟨go15,0,none⟩) ac.length aA)) (ok:=(fun _=>True)) (rS_ ai.out) hg (.inl rfl));replace af:=A_ (hp_);replace HB:=A_ ((by rw [hw];exact below_set (HB.out) GB15.out:Below w.heap.size w bb));clear hg hw hp_)|((with_reducible refine gate_builtin (b:=.append) (xs:=#[.tmp 30,.tmp 32]) rfl ?_);at_builtin;refine Kd.S_append (Kd.slice 3 (Kd.int .i64)) (w0:=w) w.heap.size rfl (.tmp 30) (.tmp 32) 118 33 (.slice none 0 0) 24 rfl Tryz.underlying118 info33 rfl (by decide) (by omega) u5 ah aE [.slice (some ⟨go15,0,none⟩) ac.length aA] (fun _=>True) (fun k_=>some k_=(.slice (some ⟨go15,0,none⟩) ac.length aA:Value).ownBlock) rfl rfl ?aP (fun k_ hk_=>((Kd.R_mono (ok':=fun k_=>((fun _=>True)) k_∧some k_≠(u5:Value).ownBlock) (Kd.R_apart' (af.out) (Kd.S_typed ai.out) (by decide)) (fun k_ hk=>⟨trivial,hk.2⟩))).1 k_ hk_.symm) ?aF ?aO ?aB ?aS ?aL ?_;(case aP=>exact Kd.M_row (Kd.R_mono (Kd.R_tight rfl (Kd.R_mono (ok':=fun k_=>((fun _=>True)) k_∧some k_≠(u5:Value).ownBlock) (Kd.R_apart' (af.out) (Kd.S_typed ai.out) (by decide)) (fun k_ hk=>⟨trivial,hk.2⟩))) (fun _ h_=>h_)));(case aB=>exact (tb_ HB.out));(case aF=>exact (fun _ _=>trivial));(case aO=>exact (by refine qS_ ?_;exact Kd.S_mono ai.out (fun k_ hk=>⟨trivial,fun e_=>hk.2 e_⟩)));(case aS=>exact (below_size (tb_ HB.out)));(case aL=>have:=aW.out;omega);intro bp br ho hb hg hat;rw [←aY.out] at ho;replace HB:=A_ (hb);have a4:=A_ (ho);clear ai af ho hb hg hat))
       go_roundg k2
       case measure=>have:=HJ2.out;have:=HK2.out;omega
       case rel=>exact ⟨(aX),(wrap64 (aa+1)),tx_,H',⟨by have:=HJ2.out;have:=HK2.out;omega⟩,⟨rS_ a4.out⟩,⟨(tb_ HB.out)⟩⟩
      ·
       obtain rfl:=Option.some.inj H;go_wp2;go_ret;exact ⟨_,tw_,by refine qS_ ?_;exact ai.out,(tb_ HB.out)⟩
def impl_PlaceOk.j0:Nat→Bool→List Int→Int→List Int→Option (Bool)
 |0,_,_,_,_=>none
 |k+1,x25,am,aG,aH=>if x25=true then (some false) else ((impl_SameRule.f k (am.length:Int) aG).bind fun a5=>((impl_ruleWays.f k am a5 aH).bind fun a6=>(some (decide (a6>0)))))
def impl_PlaceOk.f (k:Nat) (ab:List Int) (a0_1:Int) (ae:List Int):Option (Bool):=(impl_StartOk.f k ab).bind fun aM=>(if aM=true then (if a0_1<(-1) then (impl_PlaceOk.j0 k true ab a0_1 ae) else (if a0_1>3 then (impl_PlaceOk.j0 k true ab a0_1 ae) else ((impl_WordOk.f k (ab.length:Int) ae).bind fun aN=>(impl_PlaceOk.j0 k (!aN) ab a0_1 ae)))) else (impl_PlaceOk.j0 k true ab a0_1 ae))
def impl_PlaceOk.T3:Bool×List (List Nat×List Nat):=(true,[([],[]),([0],[0]),([],[]),([2],[2]),([3],[3]),([],[]),([5],[5]),([4,6],[4,6]),([],[]),([8],[8]),([1,7,9,7],[1,7,9]),([10],[10]),([11,10,0,1,2,3,4,5,6,7,8,9,10,11],[11])])
def impl_PlaceOk.B3:List Nat:=[0,1,0,4,12,0,32,124,0,256,1023,2047,4095]
theorem impl_PlaceOk.tab3:rtab .any (opsOf Tryz.f65 3)=impl_PlaceOk.T3:=by kernel_rfl
theorem impl_PlaceOk.bits3:waitsOk impl_PlaceOk.T3.2 impl_PlaceOk.B3=true:=by kernel_rfl
theorem impl_PlaceOk.z0 {P_:Prop} (h_:P_:=by go_wp2_with (first|((with_reducible refine gate_callee (f:=101) rfl ?_);refine ca_ (some 5) Tryz.func101 _ (impl_StartOk.calls k ao ap _ _ _ (gt_ st) (gt_ st) A_5.out) ?_;rintro e w_ ⟨rfl,hb⟩;refine ⟨_,rfl,?_⟩;replace hb:=hb.below;replace st:=st.ev hb;clear cl hb;have cl:=cl_ st)|((with_reducible refine gate_callee (f:=102) rfl ?_);refine gate_guard (by rfl) ?_;dsimp only;refine ca_ (some 23) Tryz.func102 _ (impl_WordOk.calls k _ aq ar _ _ _ (gt_ st) (gt_ st) A_23.out) ?_;rintro e w_ ⟨rfl,hb⟩;refine ⟨_,rfl,?_⟩;replace hb:=hb.below;replace st:=st.ev hb;clear cl hb;have cl:=cl_ st));first|(go_meet;(case rel=>exact ⟨_,(true),tx_,H',⟨by first|omega|exact Nat.le_refl _⟩,st.en⟩))|(go_meet;(case rel=>exact ⟨_,(!aN),tx_,H',⟨by first|omega|exact Nat.le_refl _⟩,st.en⟩))):P_:=h_
theorem impl_PlaceOk.calls (k:Nat) (ao:Option Addr) (ap:Nat) (ab:List Int) (a0_1:Int) (aq:Option Addr) (ar:Nat) (ae:List Int) (r:Bool) (w:World) (hr0_0:Kd.C (Kd.int .i64) w ao ab.length ab) (hc0_0:ab.length≤ap) (hr0_2:Kd.C (Kd.int .i64) w aq ae.length ae) (hc0_2:ae.length≤ar) (h:impl_PlaceOk.f k ab a0_1 ae=some r) :
  Calls Tryz.prog 65 #[.agg #[.slice ao ab.length ap,.int .i64 a0_1,.slice aq ae.length ar]] w fun e w'=>e=.returned (.bool r)∧Below w.heap.size w w':=by
 have hu35:=Tryz.underlying35;have st:=((ST.nil w).c hr0_0 hc0_0).c hr0_2 hc0_2;have s0:=st;have cl:=cl_ st;have H:=h;clear h;unfold impl_PlaceOk.f at H;go_enter Tryz.func65,Tryz.ntmps65;have HC3:=A_ H;clear H
 go_upto_region 1 with (first|((with_reducible refine gate_dst (N:=1) rfl ?_);refine al_ st ?_;clear st cl;intro g1 w_ st;have cl:=cl_ st))
 (try simp only [Act.put,sa_,sb_,sc_])
 go_cut [25] (fun bq wc=>∃(kq:Nat) (an:Bool),bq=.bool an∧Aside0 (impl_PlaceOk.j0 kq an ab a0_1 ae=some r)∧Aside0 (kq≤k)∧ST w [CA (Kd.int .i64) w ao ab ap,CA (Kd.int .i64) w aq ae ar] [Bx g1 #[.slice ao ab.length ap,.int .i64 a0_1,.slice aq ae.length ar] 35] wc)
 case first =>
  have H:=HC3.out;clear HC3;obtain ⟨aM,A_5,H⟩:=bnd_ H;rcases bx_ aM with rfl|rfl
  ·
   replace H:=bt_ H;replace H:=it_ H;rcases H with ⟨au,H⟩|⟨au,H⟩
   ·
    (first|rw [au]|(simp only [i64_w,i32_w];rw [au])|skip);have H':=A_ H;clear H;exact impl_PlaceOk.z0
   ·
    (first|rw [au]|(simp only [i64_w,i32_w];rw [au])|skip);replace H:=ig_ H;rcases H with ⟨a7,H⟩|⟨a7,H⟩
    ·
     have H':=A_ H;clear H;exact impl_PlaceOk.z0
    ·
     obtain ⟨aN,A_23,H⟩:=bnd_ H;have H':=A_ H;clear H;exact impl_PlaceOk.z0
  ·
   replace H:=bf_ H;have H':=A_ H;clear H;exact impl_PlaceOk.z0
 case rest =>
  clear HC3 st cl;obtain ⟨kq,an,rfl,HA,HJ2,st⟩:=hcut;have cl:=cl_ st
  cases kq with
  |zero=>exact absurd HA.out (by simp [impl_PlaceOk.j0])
  |succ kj2 =>
   have H:=HA.out;clear HA;simp only [impl_PlaceOk.j0] at H;rcases bx_ an with rfl|rfl
   ·
    replace H:=bt_ H;obtain rfl:=Option.some.inj H;go_wp2;go_ret;exact ⟨tw_,st.b⟩
   ·
    replace H:=bf_ H;obtain ⟨a5,A_33,H⟩:=bnd_ H;obtain ⟨a6,A_36,H⟩:=bnd_ H;obtain rfl:=Option.some.inj H;(try go_wp2);(all_goals (refine rg_ st [] ?_;clear st cl;intro w_ st hs;have cl:=cl_ st;refine with_tabW impl_PlaceOk.tab3 impl_PlaceOk.bits3 (fun HT_ HW_=>?_);refine pv_ 0 ?_;refine pv_ 2 ?_;refine pv_ 5 ?_;refine pv_ 8 ?_;refine tu_ 1 ?_;refine tu_ 3 ?_;refine tu_ 6 ?_;refine tu_ 9 ?_;refine pv_ 4 ?_;refine ov_ 7 (fun K hK=>?_);refine ca2_ (some 33) Tryz.func104 _ (impl_SameRule.calls kj2 _ _ _ _ A_33.out) ?_;rintro e w_ ⟨v0,rfl,h0,hb⟩;refine ⟨_,rfl,?_⟩;obtain ⟨B33_0,d33_0,rfl⟩:=Kd.S_slice h0;replace st:=st.p1 hb (st.ms h0);clear cl hb h0;have cl:=cl_ st;refine hK.out _ _ st.en (fun hs=>?_);clear hK K;refine nr_ 33 ?_;refine ov_ 10 (fun K hK=>?_);refine ca2_ (some 36) Tryz.func103 _ (impl_ruleWays.calls kj2 ao ap _ B33_0 d33_0 _ aq ar _ _ _ (gt_ st) (gt_ st) (gt_ st) (gt_ st) (gt_ st) (gt_ st) A_36.out) ?_;rintro e w_ ⟨rfl,hb⟩;refine ⟨_,rfl,?_⟩;replace st:=st.ev hb;clear cl hb;have cl:=cl_ st;refine hK.out _ _ st.en (fun hs=>?_);clear hK K;refine nr_ 36 ?_;refine pv_ 11 ?_;refine pv_ 12 ?_;refine done_ (done_of HT_.out (by kernel_rfl)) ?_;all_goals (try go_wp2)));go_ret;exact ⟨tw_,st.b⟩
def strconv_Itoa.f (a0:Int):Option (ByteArray):=if -9223372036854775808≤a0∧a0≤9223372036854775807 then some ⟨(Lib.itoa a0).toArray⟩ else none
theorem strconv_Itoa.calls (a0:Int) (r:ByteArray) (w:World) (hG:GWb w) (h:strconv_Itoa.f a0=some r) :
  Calls Tryz.prog 92 #[.int .i64 a0] w fun e w'=>e=.returned (.string r)∧Below w.heap.size w w':=by
 unfold strconv_Itoa.f at h;split at h
 ·
  rename_i hb;obtain rfl:=Option.some.inj h;refine (Sh.Tryz.strconv_Itoa a0 hb.1 hb.2 w hG.tab).mono fun e w' ⟨he,k,os,hw⟩=>⟨he,hw ▸ Lib.below_grow _ w (Nat.le_refl _) k os⟩
 ·
  cases h
def strings_Join.f (l0:List ByteArray) (a1:ByteArray):Option (ByteArray):=if l0.length≤140737488355328∧(Lib.join (l0.map (·.data.toList)) a1.data.toList).length≤140737488355328 then some ⟨(Lib.join (l0.map (·.data.toList)) a1.data.toList).toArray⟩ else none
theorem strings_Join.calls (A0:Option Addr) (c0:Nat) (l0:List ByteArray) (a1:ByteArray) (r:ByteArray) (w:World) (hr0:Kd.C Kd.string w A0 l0.length l0) (hc0:l0.length≤c0) (h:strings_Join.f l0 a1=some r) :
  Calls Tryz.prog 118 #[.slice A0 l0.length c0,.string a1] w fun e w'=>e=.returned (.string r)∧Below w.heap.size w w':=by
 unfold strings_Join.f at h;split at h
 ·
  rename_i hb;obtain rfl:=Option.some.inj h;rcases Nat.eq_zero_or_pos l0.length with h0|h0
  ·
   obtain rfl:l0=[]:=List.eq_nil_of_length_eq_zero h0;exact (Sh.Tryz.strings_Join_none A0 c0 a1 w).mono fun e w' ⟨he,hw⟩=>⟨he,hw ▸ Below.refl _ _⟩
  ·
   obtain ⟨ad,rfl,hc⟩:=hr0.2.2 h0
   have hcell:∀(j:Nat) x,l0[j]?=some x→w.cell? (ad.add j)=some (.string x):=by
    intro j x hj;obtain ⟨c,hc1,hc2,hc3⟩:=hc j _ hj;have e1:c=[.string x]:=hc2;have:=hc3 0 _ (by rw [e1];rfl);simpa [Kd.string,Kd.scalar] using this
   have hs:=hcell 0 _ (List.getElem?_eq_getElem h0)
   have hsp:ad.spot=none:=by
    cases hq:ad.spot with
    |none=>rfl
    |some q=>simp [World.cell?,Addr.add,hq] at hs;split at hs<;>simp at hs
   have hlt:=World.block_lt_of_cell? _ _ hs;obtain ⟨b,o,sp⟩:=ad;simp only at hsp;subst hsp;exact Sh.Tryz.strings_Join b o c0 l0 a1 w (fun j x hj=>by have:=hcell j x hj;unfold Addr.add at this;split at this<;>simp_all) (by simpa [Addr.add] using hlt) hb.1 hc0 hb.2
 ·
  cases h
def impl_rowText.l0:Nat→List ByteArray→List Int→Int→Int→Option (ByteArray)
 |0,_,_,_,_=>none
 |k+1,x3,x7,x8,x9=>if x9<x8 then (if 0≤x9 then (if x9<(x7.length:Int) then ((strconv_Itoa.f (rd x7 x9)).bind fun aC=>(if x3.length<8796093022208 then (impl_rowText.l0 k (x3++[aC]) x7 x8 (wrap64 (x9+1))) else (none))) else (none)) else (none)) else ((strings_Join.f x3 (⟨#[44]⟩:ByteArray)).bind fun a8=>(some a8))
def impl_rowText.f (k:Nat) (l0:List Int):Option (ByteArray):=impl_rowText.l0 k (([]:List ByteArray)) l0 (l0.length:Int) 0
theorem impl_rowText.z0 {P_:Prop} (h_:P_:=by go_wp2_with (first|((with_reducible refine gate_dst (N:=11) rfl ?_);obtain ⟨p_,q_,ad_,e_,x0⟩:=a2_ (Kd.at_int (gC_ st (Kd.int .i64) A0 l0) ag);have ix_:=ix1_ Tryz.underlying33 e_ p_ q_ (c:=c0);clear e_;go_step)|((with_reducible refine gate_callee (f:=92) rfl ?_);refine ca_ (some 15) Tryz.func92 _ (strconv_Itoa.calls _ _ _ (GWb.below HG.out st.b) A_15.out) ?_;rintro e w_ ⟨rfl,hb⟩;refine ⟨_,rfl,?_⟩;replace st:=st.ev hb;clear cl hb;have cl:=cl_ st)|((with_reducible refine gate_dst (N:=17) rfl ?_);refine ap_ aD aj aC [.string aC] ((.string ⟨#[]⟩)) 16 st Tryz.underlying93 ?_ (hl:=by have:=bc.out;omega);clear st cl;intro P17 q17 w_ st;have cl:=cl_ st)|((with_reducible refine gate_callee (f:=118) rfl ?_);refine ca_ (some 20) Tryz.func118 _ (strings_Join.calls aD aI _ _ _ _ (gtl_ st) (gtl_ st) A_20.out) ?_;rintro e w_ ⟨rfl,hb⟩;refine ⟨_,rfl,?_⟩;replace st:=st.ev hb;clear cl hb;have cl:=cl_ st));first|(go_roundg k1;(case measure=>have:=HK1.out;omega);(case rel=>exact ⟨((aj++[aC])),(wrap64 (ag+1)),P17,q17,tx_,tx_,H',⟨by have:=HK1.out;omega⟩,st.en⟩))|(go_ret;exact ⟨tw_,st.b⟩)):P_:=h_
theorem impl_rowText.calls (k:Nat) (A0:Option Addr) (c0:Nat) (l0:List Int) (r:ByteArray) (w:World) (hr0:Kd.C (Kd.int .i64) w A0 l0.length l0) (hc0:l0.length≤c0) (hG:GWb w) (h:impl_rowText.f k l0=some r) :
  Calls Tryz.prog 93 #[.slice A0 l0.length c0] w fun e w'=>e=.returned (.string r)∧Below w.heap.size w w':=by
 have HG:=A_ hG;clear hG;have st:=(ST.nil w).c hr0 hc0;have s0:=st;have cl:=cl_ st;have H:=h;clear h;unfold impl_rowText.f at H;go_enter Tryz.func93,Tryz.ntmps93;have H':=A_ H;clear H;go_wp2_with (first|((with_reducible refine gate_dst (N:=6) rfl ?_);refine nwl_ Kd.string 9 (([]:List ByteArray):List ByteArray) [] st ?_;clear st cl;intro B6_0 d6_0 w_ st;have cl:=cl_ st))
 go_loopg [3,9] k (fun kq v3 v9 w'=>∃(aj:List ByteArray) (ag:Int) (aD:Option Addr) (aI:Nat),v3=.slice aD aj.length aI∧v9=.int .i64 ag∧Aside0 (impl_rowText.l0 kq aj l0 (l0.length:Int) ag=some r)∧Aside0 (kq≤k)∧ST w [CA (Kd.int .i64) w A0 l0 c0] [AR Kd.string 9 w.heap.size (.slice aD aj.length aI) aj] w')
 case atStart=>exact ⟨(([]:List ByteArray)),(0),B6_0,d6_0,tx_,tx_,H',⟨Nat.le_refl _⟩,st.en⟩
 case round =>
  clear H' st cl;obtain ⟨aj,ag,aD,aI,rfl,rfl,HA,HK1,st⟩:=hrel;have cl:=cl_ st
  cases gk with
  |zero=>exact absurd HA.out (by simp [impl_rowText.l0])
  |succ k1 =>
   have H:=HA.out;clear HA;simp only [impl_rowText.l0] at H;replace H:=it_ H;rcases H with ⟨bd,H⟩|⟨bd,H⟩
   ·
    replace H:=in_ H;obtain ⟨au,H⟩:=H;replace H:=in_ H;obtain ⟨a7,H⟩:=H;obtain ⟨aC,A_15,H⟩:=bnd_ H;replace H:=il_ H;obtain ⟨bc,H⟩:=H;have H':=A_ H;clear H;exact impl_rowText.z0
   ·
    obtain ⟨a8,A_20,H⟩:=bnd_ H;obtain rfl:=Option.some.inj H;exact impl_rowText.z0
end Go.Proofs.YtopboabeigakoaaGreatDoor.MFnStoreSave
