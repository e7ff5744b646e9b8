/- Walks for FnStoreSameWay: a call returns what the plain function tells. Conditions: in each statement. -/
import Derived.Test.YtdllgaelpanblaaGreatDoorMFnStoreSameWayx12
import Derived.Test.YtdllgaelpanblaaGreatDoorMFnStoreSameWayx14
namespace Go.Proofs.YtdllgaelpanblaaGreatDoor.MFnStoreSameWay
open Go.RowKit Go.Proofs.YtdllgaelpanblaaGreatDoorW.PrintWords Go.Proofs.YtdllgaelpanblaaGreatDoorW.PrintLast Go.Proofs.YtdllgaelpanblaaGreatDoorW.PrintMore
set_option linter.unusedVariables false
set_option linter.unusedSimpArgs false
set_option maxHeartbeats 8000000
set_option maxRecDepth 100000
def spec_l20Deeds.l0:Nat→List (S42)→Int→List Int→Int→List Int→Int→List Int→Option ((List (S42))×Int)
 |0,_,_,_,_,_,_,_=>none
 |k+1,x5,x6,bq,br,aY,aZ,a5=>if x6>0 then ((spec_l20Deed.f k bq br aY aZ a5).bind fun a6=>(if x5.length<5864062014805 then (spec_l20Deeds.l0 k (x5++[(⟨a6.1,a6.2.1,a6.2.2.1⟩:S42)]) (wrap64 (x6 - 1)) bq a6.2.2.2 aY aZ a5) else (none))) else (some (x5,br))
def spec_l20Deeds.f (k:Nat) (aD:List Int) (aW:Int) (aH:List Int) (a1_1:Int) (aI:List Int):Option ((List (S42))×Int):=(spec_l20Rd_pick.f k aD aW 6).bind fun bs=>(spec_l20Deeds.l0 k (([]:List (S42))) bs.1 aD bs.2 aH a1_1 aI)
theorem spec_l20Deeds.z0 {P_:Prop} (h_:P_:=by go_wp2_with (first|((with_reducible refine gc_ 40 ?_);refine ca_ (some 17) Tryz.func40 _ (spec_l20Deed.calls k1 g _ _ a9 be _ _ bb bf _ _ _ _ _ w0 _ (sI_ (fun W_=>IsS76 w0 W_ g aD aB) st) (bw_ HBW.out HGE.out st) (gt_ st) (gt_ st) (by first|exact gt_ st|exact hf_ st (I:=(fun W_=>IsS76 w0 W_ g aD aB))) (gt_ st) (gt_ st) (by first|exact gt_ st|exact hf_ st (I:=(fun W_=>IsS76 w0 W_ g aD aB))) A_17.out) ?_;rintro e w_ ⟨rfl,hI,hb0,hk⟩;refine ⟨_,rfl,?_⟩;replace st:=st.sk0 (I:=(fun W_=>IsS76 w0 W_ g aD aB)) (I':=(fun W_=>IsS76 w0 W_ g aD bD)) hk (bw_ HBW.out HGE.out st) hb0 hI;clear cl hb0 hk hI;have cl:=cl_ st)|((with_reducible refine gd_ 19 ?_);refine ap_ bg aQ (⟨bu,bv,bw⟩:S42) [.int .i64 bu,.int .i64 bv,.int .i64 bw] ((.agg #[(.int .i64 0),(.int .i64 0),(.int .i64 0)])) 24 st Tryz.underlying35 ?_ (hl:=by have:=cq.out;omega) (hp:=k42_mkM _ _ _ _);clear st cl;intro P19 q19 w_ st;have cl:=cl_ st));first|(go_roundg k1;(case measure=>have:=HK1.out;omega);(case rel=>exact ⟨((aQ++[(⟨bu,bv,bw⟩:S42)])),(wrap64 (aX - 1)),(bD),P19,q19,tx_,tx_,H',⟨by have:=HK1.out;omega⟩,st.en⟩))|(go_ret;exact ⟨.slice bg aQ.length bj,tw_,gtl_ st,sI_ (fun W_=>IsS76 w0 W_ g aD aB) st,bw_ HBW.out HGE.out st,kw_ st⟩)):P_:=h_
theorem spec_l20Deeds.calls (k:Nat) (g:Nat) (aD:List Int) (aW:Int) (a9:Option Addr) (be:Nat) (aH:List Int) (a1_1:Int) (bb:Option Addr) (bf:Nat) (aI:List Int) (r1:List (S42)) (r2:Int) (w0 w:World) (hI:IsS76 w0 w g aD aW) (hB:Below w0.heap.size w0 w) (hr1_0:Kd.C (Kd.int .i64) w a9 aH.length aH) (hc1_0:aH.length≤be) (hf1_0:∀ad,a9=some ad→0<aH.length→ad.block≠g) (hr1_2:Kd.C (Kd.int .i64) w bb aI.length aI) (hc1_2:aI.length≤bf) (hf1_2:∀ad,bb=some ad→0<aI.length→ad.block≠g) (h:spec_l20Deeds.f k aD aW aH a1_1 aI=some (r1,r2)) :
  Calls Tryz.prog 22 #[.pointer (some ⟨g,0,none⟩),.agg #[.slice a9 aH.length be,.int .i64 a1_1,.slice bb aI.length bf]] w fun e w'=>∃v0_:Value,e=.returned (v0_)∧Kd.R k42 42 w' w.heap.size (fun _=>True) v0_ r1∧IsS76 w0 w' g aD r2∧Below w0.heap.size w0 w'∧KeepBut w w' g none:=by
 have hu31:=Tryz.underlying31;have HBW:=A_ hB;have HGE:=A_ (IsS76.ge hI);have st:=((SX.nilS (g:=g) (I:=(fun W_=>IsS76 w0 W_ g aD aW)) hI).cg hr1_0 hc1_0 hf1_0).cg hr1_2 hc1_2 hf1_2;clear hB hI;have s0:=st;have cl:=cl_ st;have H:=h;clear h;unfold spec_l20Deeds.f at H;go_enter Tryz.func22,Tryz.ntmps22;obtain ⟨⟨cr,bE⟩,A_9,H⟩:=bnd_ H;(try dsimp only at H);have H':=A_ H;clear H;go_wp2_with (first|((with_reducible refine gd_ 3 ?_);refine al_ st ?_;clear st cl;intro g3 w_ st;have cl:=cl_ st)|((with_reducible refine gd_ 7 ?_);refine nwl_ k42 42 (([]:List (S42)):List (S42)) [] st ?_ (hrep:=by repeat (first|exact Reps.none _ _|refine Reps.c3 (k42_mkM _ _ _ _) ?_));clear st cl;intro B7_0 d7_0 w_ st;have cl:=cl_ st)|((with_reducible refine gc_ 37 ?_);refine ca_ (some 9) Tryz.func37 _ (spec_l20Rd_pick.calls k g _ _ _ _ _ w0 _ (sI_ (fun W_=>IsS76 w0 W_ g aD aW) st) (bw_ HBW.out HGE.out st) A_9.out) ?_;rintro e w_ ⟨rfl,hI,hb0,hk⟩;refine ⟨_,rfl,?_⟩;replace st:=st.sk0 (I:=(fun W_=>IsS76 w0 W_ g aD aW)) (I':=(fun W_=>IsS76 w0 W_ g aD bE)) hk (bw_ HBW.out HGE.out st) hb0 hI;clear cl hb0 hk hI;have cl:=cl_ st))
 go_loopg [5,6] k (fun kq v5 v6 w'=>∃(aQ:List (S42)) (aX:Int) (aB:Int) (bg:Option Addr) (bj:Nat),v5=.slice bg aQ.length bj∧v6=.int .i64 aX∧Aside0 (spec_l20Deeds.l0 kq aQ aX aD aB aH a1_1 aI=some (r1,r2))∧Aside0 (kq≤k)∧SX w (fun k=>k=g) [CG (Kd.int .i64) w a9 aH be g,CG (Kd.int .i64) w bb aI bf g] [AR k42 42 w.heap.size (.slice bg aQ.length bj) aQ,Ai (fun W_=>IsS76 w0 W_ g aD aB) g,Bx g3 #[.slice a9 aH.length be,.int .i64 a1_1,.slice bb aI.length bf] 31] w')
 case atStart=>exact ⟨(([]:List (S42))),(cr),(bE),B7_0,d7_0,tx_,tx_,H',⟨Nat.le_refl _⟩,st.en⟩
 case round =>
  clear H' st cl;obtain ⟨aQ,aX,aB,bg,bj,rfl,rfl,HA,HK1,st⟩:=hrel;have cl:=cl_ st
  cases gk with
  |zero=>exact absurd HA.out (by simp [spec_l20Deeds.l0])
  |succ k1 =>
   have H:=HA.out;clear HA;simp only [spec_l20Deeds.l0] at H;replace H:=ig_ H;rcases H with ⟨bx,H⟩|⟨bx,H⟩
   ·
    obtain ⟨⟨bu,bv,bw,bD⟩,A_17,H⟩:=bnd_ H;(try dsimp only at H);replace H:=il_ H;obtain ⟨cq,H⟩:=H;have H':=A_ H;clear H;exact spec_l20Deeds.z0
   ·
    obtain ⟨rfl,rfl⟩:=sj2_ H;exact spec_l20Deeds.z0
def spec_DrawDeskRun.f (k:Nat) (l0:List Int):Option (List Int×Int×List Int×(List (S31))×(List (S42))):=(spec_l20Open.f l0).bind fun aE=>((spec_l20Desk.f k aE.1 aE.2 12).bind fun ao=>((spec_l20Rd_odd.f k aE.1 ao.2.2.2.2 30).bind fun aR=>(if aR.1=true then (if 41≤11728124029610 then (some (ao.1,ao.2.1,ao.2.2.1,ao.2.2.2.1,(List.replicate 41 z42))) else (none)) else ((spec_l20Deeds.f k aE.1 aR.2 ao.1 ao.2.1 ao.2.2.1).bind fun aU=>(some (ao.1,ao.2.1,ao.2.2.1,ao.2.2.2.1,aU.1))))))
theorem spec_DrawDeskRun.calls (k:Nat) (A0:Option Addr) (c0:Nat) (l0:List Int) (r1:List Int) (r2:Int) (r3:List Int) (r4:List (S31)) (r5:List (S42)) (w:World) (hr0:Kd.C (Kd.int .u8) w A0 l0.length l0) (hc0:l0.length≤c0) (h:spec_DrawDeskRun.f k l0=some (r1,r2,r3,r4,r5)) :
  Calls Tryz.prog 7 #[.slice A0 l0.length c0] w fun e w'=>∃v0_ v2_ v3_ v4_:Value,e=.returned (.tuple #[.agg #[v0_,.int .i64 r2,v2_,v3_],v4_])∧Kd.R (Kd.int .i64) 3 w' w.heap.size (fun _=>True) v0_ r1∧Kd.R (Kd.int .i64) 3 w' w.heap.size (fun _=>True) v2_ r3∧Kd.Q k31 31 w' w.heap.size (fun _=>True) v3_ r4∧Kd.R k42 42 w' w.heap.size (fun _=>True) v4_ r5∧Below w.heap.size w w':=by
 have hu34:=Tryz.underlying34;have hu31:=Tryz.underlying31;have HR0:=A_ hr0;have HC0:=A_ hc0;clear hr0 hc0;have HB:=A_ (Below.refl w.heap.size w);have H:=h;clear h;unfold spec_DrawDeskRun.f at H;obtain ⟨⟨aq,bk⟩,A2,H⟩:=bnd_ H;(try dsimp only at H);obtain ⟨⟨aj,an,ak,am,aF⟩,A3,H⟩:=bnd_ H;(try dsimp only at H);obtain ⟨⟨ct,aN⟩,A4,H⟩:=bnd_ H;(try dsimp only at H);by_cases c5:ct=true
 ·
  subst c5;replace H:=bt_ H
  replace H:=i0_ H;obtain ⟨c6,H⟩:=H;have bF:=eq_true c6;have cP:decide (41≤11728124029610)=true:=decide_eq_true c6;clear c6;obtain ⟨bz,bh⟩:∃y_:List (S42),y_=(List.replicate 41 z42):=⟨_,rfl⟩
  replace H:(some (aj,an,ak,am,bz))=some (r1,r2,r3,r4,r5):=yq_ bh H;have a7:=A_ bh;clear bh;obtain ⟨rfl,rfl,rfl,rfl,rfl⟩:=sj5_ H;go_enter Tryz.func7,Tryz.ntmps7;(try go_wp2_with (first|((with_reducible refine gd_ 2 ?_);refine be_ 2 #[.slice none 0 0,.int .i64 0,.slice none 0 0,.slice none 0 0] 34 ?_;intro ab hg w7 ac hb;have bG:=gx_ HB hg;have bH:=gx_ HB hg;replace HB:=bs_ HB hb;clear hb hg)|((with_reducible refine gc_ 16 ?_);refine gl_ (some 7) Tryz.func16 #[.slice A0 l0.length c0] ?_;(with_reducible refine (spec_l20Open.calls _ _ l0 aq bk w _ ?s1 ?s2 ?s3 A2.out).mono ?_);(case s1=>exact tb_ HB.out);(case s2=>exact HR0.out);(case s3=>exact HC0.out);rintro e w8 ⟨g748,rfl,hi,hb,hb2⟩;refine ⟨_,rfl,?_⟩;replace HB:=A_ (hb);have HI748:=A_ (hi);have bc:=A_ (IsS76.ne_blk hi (blk_below (g:=ab) (o:=.cells #[.slice none 0 0,.int .i64 0,.slice none 0 0,.slice none 0 0] 34 (0,0)) (tk_ ac.out) hb2) (by decide));have ar:=A_ (Ne.symm (IsS76.ne_blk hi (blk_below (g:=ab) (o:=.cells #[.slice none 0 0,.int .i64 0,.slice none 0 0,.slice none 0 0] 34 (0,0)) (tk_ ac.out) hb2) (by decide)));replace ac:=A_ (blk_below (g:=ab) (o:=.cells #[.slice none 0 0,.int .i64 0,.slice none 0 0,.slice none 0 0] 34 (0,0)) (tk_ ac.out) hb2);(try clear hb hb2 hi))|((with_reducible refine gc_ 20 ?_);refine gl_ (some 9) Tryz.func20 #[.pointer (some ⟨g748,0,none⟩),.int .i64 12] ?_;(with_reducible refine (spec_l20Desk.calls k g748 aq bk 12 aj an ak am aF w _ ?s1 ?s2 A3.out).mono ?_);(case s1=>exact ti76_ HI748.out);(case s2=>exact tu76_ HB.out);rintro e w9 ⟨cu,cv,cw,rfl,ho0,ho1,ho2,hi,hb,hk⟩;refine ⟨_,rfl,?_⟩;replace ac:=kb_ ac hk ar;have ah:=A_ (Kd.R_lower ho0 (below_size (tu76_ HB.out)));have ai:=A_ (Kd.R_lower ho1 (below_size (tu76_ HB.out)));have al:=A_ (Kd.Q_lower ho2 (below_size (tu76_ HB.out)));replace HB:=A_ (hb);replace HI748:=A_ (hi);(try clear hb hb2 hk hi ho0 ho1 ho2))|((with_reducible refine gd_ 5 ?_);refine be_ 5 #[.slice none 0 0,.int .i64 0,.slice none 0 0,.slice none 0 0] 34 ?_;intro ae hg cT af hb;replace ah:=rb_ ah hb;replace ai:=rb_ ai hb;replace al:=A_ (Kd.Q_below (rQ_ al.out) hb);have bI:=A_ ((by rw [hg];exact (below_size (tu76_ HB.out)):w.heap.size≤ae));have bJ:=A_ ((by rw [hg];exact (below_size (tu76_ HB.out)):w.heap.size≤ae));replace HB:=tu76_s HB hb;have ag:=nl_ ac hg;have aa:=ng_ ac hg;replace ac:=bb_ ac hb;have aG:=A_ ((by rw [hg];exact Nat.ne_of_lt (IsS76.lt (ti76_ HI748.out:IsS76 w _ g748 aq aF)):g748≠ae));have au:=A_ ((by rw [hg];exact Nat.ne_of_gt (IsS76.lt (ti76_ HI748.out:IsS76 w _ g748 aq aF)):ae≠g748));replace HI748:=ti76_b HI748 hb;clear hb hg;obtain ⟨av,aw,cx⟩:=Kd.R_slice ah.out;subst cx;have cH:=aa.out;have cI:=ag.out;have cJ:=au.out;have cK:=aG.out;obtain ⟨bO,bP,bQ,bR,bS,bU,bV,bW⟩:=cf4_ af;obtain ⟨ax,ay,cy⟩:=Kd.R_slice ai.out;subst cy;obtain ⟨az,aA,cz,_⟩:=Kd.Q_slice al.out;subst cz)|((with_reducible refine gc_ 21 ?_);refine gl_ (some 11) Tryz.func21 #[.pointer (some ⟨g748,0,none⟩),.int .i64 30] ?_;(with_reducible refine (spec_l20Rd_odd.calls k g748 aq aF 30 true aN w _ ?s1 ?s2 A4.out).mono ?_);(case s1=>exact ti76_ HI748.out);(case s2=>exact tu76_ HB.out);rintro e cQ ⟨rfl,hi,hb,hk⟩;refine ⟨_,rfl,?_⟩;replace ac:=kb_ ac hk ar;replace ah:=A_ (Kd.R_mono (Kd.R_keep (IsS76.apart (ti76_ HI748.out:IsS76 w _ g748 aq aF) (wR_ ah af) (by decide)) hk (fun _ h=>h.2)) (fun _ h=>h.1));replace ai:=A_ (Kd.R_mono (Kd.R_keep (IsS76.apart (ti76_ HI748.out:IsS76 w _ g748 aq aF) (wR_ ai af) (by decide)) hk (fun _ h=>h.2)) (fun _ h=>h.1));replace al:=A_ (Kd.Q_mono (Kd.Q_keep (IsS76.apartQ (ti76_ HI748.out:IsS76 w _ g748 aq aF) (wQ_ al af) (by decide)) hk (fun _ h=>h.2)) (fun _ h=>h.1));replace af:=A_ (KeepBut.blk hk (g':=ae) (o:=.cells #[.slice av aj.length aw,.int .i64 an,.slice ax ak.length ay,.slice az am.length aA] 34 (0,0)) (ps_ af.out) au.out (by simp));replace HB:=A_ (hb);replace HI748:=A_ (hi);(try clear hb hb2 hk hi))));replace ah:=rd_ ah;replace ai:=rd_ ai;replace al:=A_ (Kd.Q_drew al.out);replace ac:=dB_ ac;replace af:=dB_ af;replace HI748:=A_ (IsS76.drew HI748.out);replace HB:=A_ (ld_ HB.out);refine sv_ (S:=fun w'=>w'.cell? ⟨ae,0,none⟩=some (.slice av aj.length aw)∧w'.cell? ⟨ae,1,none⟩=some (.int .i64 an)∧w'.cell? ⟨ae,2,none⟩=some (.slice ax ak.length ay)∧w'.cell? ⟨ae,3,none⟩=some (.slice az am.length aA)) (ds:=[]) hh_ (fun hHeld=>?_);generalize cQ.drew=bK at ah ai al ac af HI748 HB hHeld ⊢;refine take_ (i:=0) (N:=some 12) (v:=?_) (a':=?_) #[true,false,false,false] rfl rfl (by kernel_rfl) (fun _ _ _ h=>h) (Or.inl ⟨by rfl,?_⟩) hHeld ?_ ?_;rotate_left
  ·
   rintro w' ⟨s0,s1,s2,s3⟩;go_simp;first|with_reducible rfl|(rw [if_neg (by omega)];done)
  rotate_left
  ·
   simp only [Act.put,sa_,sb_,sc_,i64_w,i32_w];rfl
  refine join_ (σ:=Value) 1 #[true,true,true,false] (fun s_=>[(13,s_)]) (fun s_ w'=>(w'.cell? ⟨ae,0,none⟩=some (.slice av aj.length aw)∧w'.cell? ⟨ae,1,none⟩=some (.int .i64 an)∧w'.cell? ⟨ae,2,none⟩=some (.slice ax ak.length ay)∧w'.cell? ⟨ae,3,none⟩=some (.slice az am.length aA))∧(Kd.R (Kd.int .i64) 3 w' w.heap.size (fun _=>True) (.slice av aj.length aw) aj)∧(Kd.R (Kd.int .i64) 3 w' w.heap.size (fun _=>True) (.slice ax ak.length ay) ak)∧(Kd.Q k31 31 w' w.heap.size (fun _=>True) (.slice az am.length aA) am)∧(Kd.R k42 42 w' w.heap.size (fun _=>True) s_ bz)∧(w'.heap[ab]?=some (.cells #[.slice av aj.length aw,.int .i64 an,.slice ax ak.length ay,.slice az am.length aA] 34 (0,0)))∧(w'.heap[ae]?=some (.cells #[.slice av aj.length aw,.int .i64 an,.slice ax ak.length ay,.slice az am.length aA] 34 (0,0)))∧(IsS76 w w' g748 aq aN)∧(Below w.heap.size w w')) ?_ ?_;rotate_left
  ·
   intro hCont;refine two_ (i:=1) (j:=2) (Ni:=some 13) (Nj:=none) #[true,true,false,false] #[true,false,true,false] rfl rfl rfl rfl (by kernel_rfl) (by decide) (by decide) (fun K hK=>?_) (fun K hK=>?_)
   ·
    skip;refine Kd.R_make_step k42 _ 42 (by rfl) (N:=13) rfl 35 _ _ rfl 41 rfl rfl Tryz.underlying35 (.agg #[(.int .i64 0),(.int .i64 0),(.int .i64 0)]) 24 info42 rfl (by decide) (by omega) z42 (ok:=fun _=>True) (okp:=fun _=>True) (k42_mkM _ _ _ z42) (fun _ hk=>hk) trivial (by omega) (by omega) (Below.refl _ _) (Nat.le_refl _) ?_;intro bi bX ho20 hb hg_ hnew_;clear hg_ hnew_;(first|rw [←a7.out] at ho20|(simp only [Int.reduceToNat] at ho20;rw [←a7.out] at ho20));replace ah:=rb_ ah hb;replace ai:=rb_ ai hb;replace al:=A_ (Kd.Q_below (rQ_ al.out) hb);have aV:=A_ (Kd.R_lower ho20 (below_size (tu76_ HB.out)));replace ac:=bb_ ac hb;replace HI748:=ti76_b HI748 hb;replace af:=bb_ af hb;replace HB:=tu76_s HB hb;clear hb ho20;refine hK.out _ _ hh_ (fun hHeld=>?_);clear hK K;refine nr_ 13 ?_;refine one_ (i:=2) (N:=none) #[true,true,true,false] rfl rfl (by kernel_rfl) (by decide) (fun K hK=>?_);have hs21:bX.cell? ⟨ab,0,none⟩=some (.slice none 0 0):=(blk_cell ac.out 0).trans rfl;have hfs21:=blk_frozen ac.out 0;have bl:=aa.out;have bm:=ag.out;have hs22:bX.cell? ⟨ab,1,none⟩=some (.int .i64 0):=(blk_cell ac.out 1).trans rfl;have hfs22:=blk_frozen ac.out 1;have bn:=aa.out;have bo:=ag.out;have hs23:bX.cell? ⟨ab,2,none⟩=some (.slice none 0 0):=(blk_cell ac.out 2).trans rfl;have hfs23:=blk_frozen ac.out 2;have bZ:=aa.out;have b0:=ag.out;have hs24:bX.cell? ⟨ab,3,none⟩=some (.slice none 0 0):=(blk_cell ac.out 3).trans rfl;have hfs24:=blk_frozen ac.out 3;have b1:=aa.out;have b2:=ag.out;refine sk_ rfl ?_;refine hK.out _ _ ⟨((c4_ aa.out hHeld.1)),((c4_ aa.out hHeld.2.1)),((c4_ aa.out hHeld.2.2.1)),((c4_ aa.out hHeld.2.2.2))⟩ (fun hHeld=>?_);clear hK K;exact nq_ (hCont (bi) _ ⟨hHeld,(Kd.R_mono (xR_ ah ac) (fun _ hk=>trivial)),(Kd.R_mono (xR_ ai ac) (fun _ hk=>trivial)),(Kd.Q_mono (xQ_ al ac) (fun _ hk=>trivial)),(Kd.R_mono (xR_ aV ac) (fun _ hk=>trivial)),(ps_ ac.out),(tk_ af.out),(ti76_ HI748.out),(tu76_ HB.out)⟩)
   ·
    skip;have hs19:bK.cell? ⟨ab,0,none⟩=some (.slice none 0 0):=(blk_cell ac.out 0).trans rfl;have hfs19:=blk_frozen ac.out 0;have b3:=aa.out;have b4:=ag.out;have hs20:bK.cell? ⟨ab,1,none⟩=some (.int .i64 0):=(blk_cell ac.out 1).trans rfl;have hfs20:=blk_frozen ac.out 1;have b5:=aa.out;have b6:=ag.out;have hs21:bK.cell? ⟨ab,2,none⟩=some (.slice none 0 0):=(blk_cell ac.out 2).trans rfl;have hfs21:=blk_frozen ac.out 2;have bl:=aa.out;have bm:=ag.out;have hs22:bK.cell? ⟨ab,3,none⟩=some (.slice none 0 0):=(blk_cell ac.out 3).trans rfl;have hfs22:=blk_frozen ac.out 3;have bn:=aa.out;have bo:=ag.out;refine sk_ rfl ?_;refine hK.out _ _ ⟨((c4_ aa.out hHeld.1)),((c4_ aa.out hHeld.2.1)),((c4_ aa.out hHeld.2.2.1)),((c4_ aa.out hHeld.2.2.2))⟩ (fun hHeld=>?_);clear hK K;refine one_ (i:=1) (N:=some 13) #[true,true,true,false] rfl rfl (by kernel_rfl) (by decide) (fun K hK=>?_);refine Kd.R_make_step k42 _ 42 (by rfl) (N:=13) rfl 35 _ _ rfl 41 rfl rfl Tryz.underlying35 (.agg #[(.int .i64 0),(.int .i64 0),(.int .i64 0)]) 24 info42 rfl (by decide) (by omega) z42 (ok:=fun _=>True) (okp:=fun _=>True) (k42_mkM _ _ _ z42) (fun _ hk=>hk) trivial (by omega) (by omega) (Below.refl _ _) (Nat.le_refl _) ?_;intro bi cU ho24 hb hg_ hnew_;clear hg_ hnew_;(first|rw [←a7.out] at ho24|(simp only [Int.reduceToNat] at ho24;rw [←a7.out] at ho24));replace ah:=A_ (Kd.R_below (wR_ ah ac) hb);replace ai:=A_ (Kd.R_below (wR_ ai ac) hb);replace al:=A_ (Kd.Q_below (wQ_ al ac) hb);have aV:=A_ (Kd.R_lower ho24 (below_size (tu76_ HB.out)));replace ac:=bp_ #[.slice av aj.length aw,.int .i64 an,.slice ax ak.length ay,.slice az am.length aA] ac hb;replace HI748:=A_ (IsS76.below (show IsS76 w ((((bK.setCell ⟨ab,0,none⟩ (.slice av aj.length aw)).setCell ⟨ab,1,none⟩ (.int .i64 an)).setCell ⟨ab,2,none⟩ (.slice ax ak.length ay)).setCell ⟨ab,3,none⟩ (.slice az am.length aA)) g748 aq aN from ti76_ HI748.out) hb);replace af:=bb_ af hb;replace HB:=tu76_s HB hb;clear hb ho24;refine hK.out _ _ hh_ (fun hHeld=>?_);clear hK K;refine nr_ 13 ?_;exact nq_ (hCont (bi) _ ⟨hHeld,(rR_ ah.out),(rR_ ai.out),(rQ_ al.out),(rR_ aV.out),(tk_ ac.out),(tk_ af.out),(ti76_ HI748.out),(tu76_ HB.out)⟩)
  rintro bi bd ⟨hS_,h0_,h1_,h2_,h3_,h4_,h5_,h6_,h7_⟩;replace ah:Aside0 (Kd.R (Kd.int .i64) 3 bd w.heap.size (fun _=>True) (.slice av aj.length aw) aj):=⟨h0_⟩
  replace ai:Aside0 (Kd.R (Kd.int .i64) 3 bd w.heap.size (fun _=>True) (.slice ax ak.length ay) ak):=⟨h1_⟩
  replace al:Aside0 (Kd.Q k31 31 bd w.heap.size (fun _=>True) (.slice az am.length aA) am):=⟨h2_⟩
  have aV:Aside0 (Kd.R k42 42 bd w.heap.size (fun _=>True) bi bz):=⟨h3_⟩
  replace ac:Aside0 (bd.heap[ab]?=some (.cells #[.slice av aj.length aw,.int .i64 an,.slice ax ak.length ay,.slice az am.length aA] 34 (0,0))):=⟨h4_⟩
  replace af:Aside0 (bd.heap[ae]?=some (.cells #[.slice av aj.length aw,.int .i64 an,.slice ax ak.length ay,.slice az am.length aA] 34 (0,0))):=⟨h5_⟩
  replace HI748:Aside0 (IsS76 w bd g748 aq aN):=⟨h6_⟩
  replace HB:Aside0 (Below w.heap.size w bd):=⟨h7_⟩
  clear h0_ h1_ h2_ h3_ h4_ h5_ h6_ h7_;have hHeld:bd.cell? ⟨ae,0,none⟩=some (.slice av aj.length aw)∧bd.cell? ⟨ae,1,none⟩=some (.int .i64 an)∧bd.cell? ⟨ae,2,none⟩=some (.slice ax ak.length ay)∧bd.cell? ⟨ae,3,none⟩=some (.slice az am.length aA):=hS_;refine norm_ (a':=?_) ?_ ?_;rotate_left
  ·
   simp only [putAll,Act.put,sa_,sb_,sc_];rfl
  refine pure_ (i:=3) (N:=some 3) (v:=?_) (a':=?_) #[true,true,true,true] rfl rfl (by kernel_rfl) (fun _ _ _ h=>h) (Or.inl ⟨by rfl,?_⟩) ?_ ?_;rotate_left
  ·
   intro w';go_simp;first|with_reducible rfl|(rw [if_neg (by omega)];done)
  rotate_left
  ·
   simp only [Act.put,sa_,sb_,sc_,i64_w,i32_w];rfl
  refine done_ (by kernel_rfl) ?_;(try go_wp2);refine bodyPost_ret (results_ct rfl _ _ ab 34 #[.slice av aj.length aw,.int .i64 an,.slice ax ak.length ay,.slice az am.length aA] (0,0) _ rfl (tk_ ac.out) Tryz.underlying34 rfl (by kernel_rfl)) rfl ?_;exact ⟨_,_,_,_,tw_,by refine qR_ ?_;exact ah.out,by refine qR_ ?_;exact ai.out,by refine qQ_ ?_;exact al.out,by refine qR_ ?_;exact aV.out,tu76_ HB.out⟩
 ·
  replace c5:=Bool.eq_false_iff.mpr c5;subst c5;replace H:=bf_ H
  obtain ⟨⟨cA,cB⟩,A26,H⟩:=bnd_ H;(try dsimp only at H);obtain ⟨rfl,rfl,rfl,rfl,rfl⟩:=sj5_ H;go_enter Tryz.func7,Tryz.ntmps7;(try go_wp2_with (first|((with_reducible refine gd_ 2 ?_);refine be_ 2 #[.slice none 0 0,.int .i64 0,.slice none 0 0,.slice none 0 0] 34 ?_;intro ab hg cV ac hb;have bG:=gx_ HB hg;have bH:=gx_ HB hg;replace HB:=bs_ HB hb;clear hb hg)|((with_reducible refine gc_ 16 ?_);refine gl_ (some 7) Tryz.func16 #[.slice A0 l0.length c0] ?_;(with_reducible refine (spec_l20Open.calls _ _ l0 aq bk w _ ?s1 ?s2 ?s3 A2.out).mono ?_);(case s1=>exact tb_ HB.out);(case s2=>exact HR0.out);(case s3=>exact HC0.out);rintro e cW ⟨g748,rfl,hi,hb,hb2⟩;refine ⟨_,rfl,?_⟩;replace HB:=A_ (hb);have HI748:=A_ (hi);have bc:=A_ (IsS76.ne_blk hi (blk_below (g:=ab) (o:=.cells #[.slice none 0 0,.int .i64 0,.slice none 0 0,.slice none 0 0] 34 (0,0)) (tk_ ac.out) hb2) (by decide));have ar:=A_ (Ne.symm (IsS76.ne_blk hi (blk_below (g:=ab) (o:=.cells #[.slice none 0 0,.int .i64 0,.slice none 0 0,.slice none 0 0] 34 (0,0)) (tk_ ac.out) hb2) (by decide)));replace ac:=A_ (blk_below (g:=ab) (o:=.cells #[.slice none 0 0,.int .i64 0,.slice none 0 0,.slice none 0 0] 34 (0,0)) (tk_ ac.out) hb2);(try clear hb hb2 hi))|((with_reducible refine gc_ 20 ?_);refine gl_ (some 9) Tryz.func20 #[.pointer (some ⟨g748,0,none⟩),.int .i64 12] ?_;(with_reducible refine (spec_l20Desk.calls k g748 aq bk 12 aj an ak am aF w _ ?s1 ?s2 A3.out).mono ?_);(case s1=>exact ti76_ HI748.out);(case s2=>exact tu76_ HB.out);rintro e cX ⟨cu,cv,cw,rfl,ho0,ho1,ho2,hi,hb,hk⟩;refine ⟨_,rfl,?_⟩;replace ac:=kb_ ac hk ar;have ah:=A_ (Kd.R_lower ho0 (below_size (tu76_ HB.out)));have ai:=A_ (Kd.R_lower ho1 (below_size (tu76_ HB.out)));have al:=A_ (Kd.Q_lower ho2 (below_size (tu76_ HB.out)));replace HB:=A_ (hb);replace HI748:=A_ (hi);(try clear hb hb2 hk hi ho0 ho1 ho2))|((with_reducible refine gd_ 5 ?_);refine be_ 5 #[.slice none 0 0,.int .i64 0,.slice none 0 0,.slice none 0 0] 34 ?_;intro ae hg cY af hb;replace ah:=rb_ ah hb;replace ai:=rb_ ai hb;replace al:=A_ (Kd.Q_below (rQ_ al.out) hb);have bI:=A_ ((by rw [hg];exact (below_size (tu76_ HB.out)):w.heap.size≤ae));have bJ:=A_ ((by rw [hg];exact (below_size (tu76_ HB.out)):w.heap.size≤ae));replace HB:=tu76_s HB hb;have ag:=nl_ ac hg;have aa:=ng_ ac hg;replace ac:=bb_ ac hb;have aG:=A_ ((by rw [hg];exact Nat.ne_of_lt (IsS76.lt (ti76_ HI748.out:IsS76 w _ g748 aq aF)):g748≠ae));have au:=A_ ((by rw [hg];exact Nat.ne_of_gt (IsS76.lt (ti76_ HI748.out:IsS76 w _ g748 aq aF)):ae≠g748));replace HI748:=ti76_b HI748 hb;clear hb hg;obtain ⟨aJ,aK,cC⟩:=Kd.R_slice ah.out;subst cC;have cL:=aa.out;have cM:=ag.out;have cN:=au.out;have cO:=aG.out;obtain ⟨b7,b8,b9,ca,cb,cc,cd,ce⟩:=cf4_ af;obtain ⟨aL,aM,cD⟩:=Kd.R_slice ai.out;subst cD;obtain ⟨aO,aP,cE,_⟩:=Kd.Q_slice al.out;subst cE)|((with_reducible refine gc_ 21 ?_);refine gl_ (some 11) Tryz.func21 #[.pointer (some ⟨g748,0,none⟩),.int .i64 30] ?_;(with_reducible refine (spec_l20Rd_odd.calls k g748 aq aF 30 false aN w _ ?s1 ?s2 A4.out).mono ?_);(case s1=>exact ti76_ HI748.out);(case s2=>exact tu76_ HB.out);rintro e cR ⟨rfl,hi,hb,hk⟩;refine ⟨_,rfl,?_⟩;replace ac:=kb_ ac hk ar;replace ah:=A_ (Kd.R_mono (Kd.R_keep (IsS76.apart (ti76_ HI748.out:IsS76 w _ g748 aq aF) (wR_ ah af) (by decide)) hk (fun _ h=>h.2)) (fun _ h=>h.1));replace ai:=A_ (Kd.R_mono (Kd.R_keep (IsS76.apart (ti76_ HI748.out:IsS76 w _ g748 aq aF) (wR_ ai af) (by decide)) hk (fun _ h=>h.2)) (fun _ h=>h.1));replace al:=A_ (Kd.Q_mono (Kd.Q_keep (IsS76.apartQ (ti76_ HI748.out:IsS76 w _ g748 aq aF) (wQ_ al af) (by decide)) hk (fun _ h=>h.2)) (fun _ h=>h.1));replace af:=A_ (KeepBut.blk hk (g':=ae) (o:=.cells #[.slice aJ aj.length aK,.int .i64 an,.slice aL ak.length aM,.slice aO am.length aP] 34 (0,0)) (ps_ af.out) au.out (by simp));replace HB:=A_ (hb);replace HI748:=A_ (hi);(try clear hb hb2 hk hi))));replace ah:=rd_ ah;replace ai:=rd_ ai;replace al:=A_ (Kd.Q_drew al.out);replace ac:=dB_ ac;replace af:=dB_ af;replace HI748:=A_ (IsS76.drew HI748.out);replace HB:=A_ (ld_ HB.out);refine sv_ (S:=fun w'=>w'.cell? ⟨ae,0,none⟩=some (.slice aJ aj.length aK)∧w'.cell? ⟨ae,1,none⟩=some (.int .i64 an)∧w'.cell? ⟨ae,2,none⟩=some (.slice aL ak.length aM)∧w'.cell? ⟨ae,3,none⟩=some (.slice aO am.length aP)) (ds:=[]) hh_ (fun hHeld=>?_);generalize cR.drew=cZ at ah ai al ac af HI748 HB hHeld ⊢;refine pure_ (i:=1) (N:=some 15) (v:=?_) (a':=?_) #[false,true,false,false,false,false,false] rfl rfl (by kernel_rfl) (fun _ _ _ h=>h) (Or.inl ⟨by rfl,?_⟩) ?_ ?_;rotate_left
  ·
   intro w';go_simp;first|with_reducible rfl|(rw [if_neg (by omega)];done)
  rotate_left
  ·
   simp only [Act.put,sa_,sb_,sc_,i64_w,i32_w];rfl
  refine pure_ (i:=2) (N:=some 16) (v:=?_) (a':=?_) #[false,true,true,false,false,false,false] rfl rfl (by kernel_rfl) (fun _ _ _ h=>h) (Or.inl ⟨by rfl,?_⟩) ?_ ?_;rotate_left
  ·
   intro w';go_simp;first|with_reducible rfl|(rw [if_neg (by omega)];done)
  rotate_left
  ·
   simp only [Act.put,sa_,sb_,sc_,i64_w,i32_w];rfl
  refine take_ (i:=0) (N:=some 14) (v:=?_) (a':=?_) #[true,true,true,false,false,false,false] rfl rfl (by kernel_rfl) (fun _ _ _ h=>h) (Or.inl ⟨by rfl,?_⟩) hHeld ?_ ?_;rotate_left
  ·
   rintro w' ⟨s0,s1,s2,s3⟩;go_simp;first|with_reducible rfl|(rw [if_neg (by omega)];done)
  rotate_left
  ·
   simp only [Act.put,sa_,sb_,sc_,i64_w,i32_w];rfl
  refine take_ (i:=3) (N:=some 17) (v:=?_) (a':=?_) #[true,true,true,true,false,false,false] rfl rfl (by kernel_rfl) (fun _ _ _ h=>h) (Or.inl ⟨by rfl,?_⟩) hHeld ?_ ?_;rotate_left
  ·
   rintro w' ⟨s0,s1,s2,s3⟩;go_simp;first|with_reducible rfl|(rw [if_neg (by omega)];done)
  rotate_left
  ·
   simp only [Act.put,sa_,sb_,sc_,i64_w,i32_w];rfl
  refine one_ (i:=4) (N:=some 18) #[true,true,true,true,true,false,false] rfl rfl (by kernel_rfl) (by decide) (fun K hK=>?_);refine goes_ Tryz.func22 (by kernel_rfl) rfl #[.pointer (some ⟨g748,0,none⟩),.agg #[.slice aJ aj.length aK,.int .i64 an,.slice aL ak.length aM]] (by rfl) rfl rfl tz_ ?_;(with_reducible refine (spec_l20Deeds.calls k g748 aq aN _ _ aj an _ _ ak cA cB w _ ?s1 ?s2 ?s3 ?s4 ?s5 ?s6 ?s7 ?s8 A26.out).mono ?_);(case s1=>exact ti76_ HI748.out);(case s2=>exact tu76_ HB.out);(case s3=>exact rc_ ah);(case s4=>exact (ll_ ah));(case s5=>exact far_slice (IsS76.own_ne HI748.out ah.out (by decide)));(case s6=>exact rc_ ai);(case s7=>exact (ll_ ai));(case s8=>exact far_slice (IsS76.own_ne HI748.out ai.out (by decide)));rintro e cf ⟨cS,rfl,ho0,hi,hb,hk⟩;refine ⟨_,rfl,?_⟩;replace ac:=kb_ ac hk ar;replace ah:=A_ (Kd.R_mono (Kd.R_keep (IsS76.apart (ti76_ HI748.out:IsS76 w _ g748 aq aN) (rR_ ah.out) (by decide)) hk (fun _ h=>h.2)) (fun _ h=>h.1));replace ai:=A_ (Kd.R_mono (Kd.R_keep (IsS76.apart (ti76_ HI748.out:IsS76 w _ g748 aq aN) (rR_ ai.out) (by decide)) hk (fun _ h=>h.2)) (fun _ h=>h.1));replace al:=A_ (Kd.Q_mono (Kd.Q_keep (IsS76.apartQ (ti76_ HI748.out:IsS76 w _ g748 aq aN) (rQ_ al.out) (by decide)) hk (fun _ h=>h.2)) (fun _ h=>h.1));replace af:=kb_ af hk au;have bL:=A_ (Kd.R_lower ho0 (below_size (tu76_ HB.out)));replace HB:=A_ (hb);replace HI748:=A_ (hi);(try clear hb);(try clear hb2);(try clear hk);(try clear hi);(try clear ho0);refine hK.out _ _ hh_ (fun hHeld=>?_);clear hK K;refine nr_ 18 ?_;refine one_ (i:=5) (N:=none) #[true,true,true,true,true,true,false] rfl rfl (by kernel_rfl) (by decide) (fun K hK=>?_);have hs40:cf.cell? ⟨ab,0,none⟩=some (.slice none 0 0):=(blk_cell ac.out 0).trans rfl;have hfs40:=blk_frozen ac.out 0;have ch:=aa.out;have ci:=ag.out;have hs41:cf.cell? ⟨ab,1,none⟩=some (.int .i64 0):=(blk_cell ac.out 1).trans rfl;have hfs41:=blk_frozen ac.out 1;have cj:=aa.out;have ck:=ag.out;have hs42:cf.cell? ⟨ab,2,none⟩=some (.slice none 0 0):=(blk_cell ac.out 2).trans rfl;have hfs42:=blk_frozen ac.out 2;have cm:=aa.out;have cn:=ag.out;have hs43:cf.cell? ⟨ab,3,none⟩=some (.slice none 0 0):=(blk_cell ac.out 3).trans rfl;have hfs43:=blk_frozen ac.out 3;have co:=aa.out;have cp:=ag.out;refine sk_ rfl ?_;refine hK.out _ _ ⟨((c4_ aa.out hHeld.1)),((c4_ aa.out hHeld.2.1)),((c4_ aa.out hHeld.2.2.1)),((c4_ aa.out hHeld.2.2.2))⟩ (fun hHeld=>?_);clear hK K;refine pure_ (i:=6) (N:=some 3) (v:=?_) (a':=?_) #[true,true,true,true,true,true,true] rfl rfl (by kernel_rfl) (fun _ _ _ h=>h) (Or.inl ⟨by rfl,?_⟩) ?_ ?_;rotate_left
  ·
   intro w';go_simp;first|with_reducible rfl|(rw [if_neg (by omega)];done)
  rotate_left
  ·
   simp only [Act.put,sa_,sb_,sc_,i64_w,i32_w];rfl
  refine done_ (by kernel_rfl) ?_;(try go_wp2);refine bodyPost_ret (results_ct rfl _ _ ab 34 #[.slice aJ aj.length aK,.int .i64 an,.slice aL ak.length aM,.slice aO am.length aP] (0,0) _ rfl (ps_ ac.out) Tryz.underlying34 rfl (by kernel_rfl)) rfl ?_;exact ⟨_,_,_,_,tw_,Kd.R_mono (xR_ ah ac) (fun _ hk=>trivial),Kd.R_mono (xR_ ai ac) (fun _ hk=>trivial),Kd.Q_mono (xQ_ al ac) (fun _ hk=>trivial),Kd.R_mono (xR_ bL ac) (fun _ hk=>trivial),tu76_ HB.out⟩
def impl_StartOk.l0:Nat→List Int→List Int→Int→Int→Option (Bool)
 |0,_,_,_,_=>none
 |k+1,x0,x5,x6,x7=>if x7<x6 then (if 0≤x7 then (if x7<(x5.length:Int) then (if (rd x5 x7)>10 then (some false) else (impl_StartOk.l0 k x0 x5 x6 (wrap64 (x7+1)))) else (none)) else (none)) else ((impl_UrnOk.f k x0).bind fun bB=>(some bB))
def impl_StartOk.f (k:Nat) (l0:List Int):Option (Bool):=impl_StartOk.l0 k l0 l0 (l0.length:Int) 0
theorem impl_StartOk.calls (k:Nat) (A0:Option Addr) (c0:Nat) (l0:List Int) (r:Bool) (w:World) (hr0:Kd.C (Kd.int .i64) w A0 l0.length l0) (hc0:l0.length≤c0) (h:impl_StartOk.f k l0=some r) :
  Calls Tryz.prog 57 #[.slice A0 l0.length c0] w fun e w'=>e=.returned (.bool r)∧Drawn0 w w':=by
 have HR0:=A_ hr0;have HC0:=A_ hc0;clear hr0 hc0;have H:=h;clear h;unfold impl_StartOk.f at H;have H':=A_ H;clear H;go_enter Tryz.func57,Tryz.ntmps57;go_wp2
 go_loopg [7] k (fun kq v7 w'=>∃(aC:Int),v7=.int .i64 aC∧Aside0 (impl_StartOk.l0 kq l0 l0 (l0.length:Int) aC=some r)∧Aside0 (kq≤k)∧Drawn0 w w')
 case atStart=>exact ⟨(0),tx_,H',⟨Nat.le_refl _⟩,dz_⟩
 case round =>
  clear H';obtain ⟨aC,rfl,HA,HK1,⟨m1,rfl⟩⟩:=hrel
  cases gk with
  |zero=>exact absurd HA.out (by simp [impl_StartOk.l0])
  |succ k1 =>
   have H:=HA.out;clear HA;simp only [impl_StartOk.l0] at H;replace H:=it_ H;rcases H with ⟨cF,H⟩|⟨cF,H⟩
   ·
    replace H:=in_ H;obtain ⟨bM,H⟩:=H;replace H:=in_ H;obtain ⟨bx,H⟩:=H;replace H:=ig_ H;rcases H with ⟨bN,H⟩|⟨bN,H⟩
    ·
     obtain rfl:=Option.some.inj H;obtain ⟨p770,q770,ad770,e770,bp⟩:=a2_ (Kd.at_int HR0.out aC);cases e770;go_wp2;go_ret;exact ⟨tx_,dz_⟩
    ·
     have H':=A_ H;clear H;obtain ⟨p770,q770,ad770,e770,bp⟩:=a2_ (Kd.at_int HR0.out aC);cases e770;go_wp2
     go_roundg k1
     case measure=>have:=HK1.out;omega
     case rel=>exact ⟨(wrap64 (aC+1)),tx_,H',⟨by have:=HK1.out;omega⟩,dz_⟩
   ·
    obtain ⟨bB,A6,H⟩:=bnd_ H;(try dsimp only at H);obtain rfl:=Option.some.inj H;go_wp2_with (first|((with_reducible refine gc_ 19 ?_);refine gl_ (some 15) Tryz.func19 #[.slice A0 l0.length c0] ?_;(with_reducible refine (impl_UrnOk.calls k1 _ _ l0 bB _ ?s1 ?s2 A6.out).mono ?_);(case s1=>exact td_);(case s2=>exact HC0.out);rintro e w' ⟨rfl,⟨nd,rfl⟩⟩;refine ⟨_,rfl,?_⟩));go_ret;exact ⟨tx_,dz_⟩
def impl_WordOk.l0:Nat→Int→List Int→List Int→Int→Int→Option (Bool)
 |0,_,_,_,_,_=>none
 |k+1,x0,x1,x7,x8,x9=>if x9<x8 then (if 0≤x9 then (if x9<(x7.length:Int) then (if (rd x7 x9)<0 then (some false) else (if (rd x7 x9)≥x0 then (some false) else (impl_WordOk.l0 k x0 x1 x7 x8 (wrap64 (x9+1))))) else (none)) else (none)) else ((impl_coloursOk.f x0).bind fun bC=>(if bC=true then (some (decide ((x1.length:Int)≤6))) else (some false)))
def impl_WordOk.f (k:Nat) (a0:Int) (l1:List Int):Option (Bool):=impl_WordOk.l0 k a0 l1 l1 (l1.length:Int) 0
theorem impl_WordOk.calls (k:Nat) (a0:Int) (A1:Option Addr) (c1:Nat) (l1:List Int) (r:Bool) (w:World) (hr1:Kd.C (Kd.int .i64) w A1 l1.length l1) (hc1:l1.length≤c1) (h:impl_WordOk.f k a0 l1=some r) :
  Calls Tryz.prog 58 #[.int .i64 a0,.slice A1 l1.length c1] w fun e w'=>e=.returned (.bool r)∧Drawn0 w w':=by
 have HR1:=A_ hr1;have HC1:=A_ hc1;clear hr1 hc1;have H:=h;clear h;unfold impl_WordOk.f at H;have H':=A_ H;clear H;go_enter Tryz.func58,Tryz.ntmps58;go_wp2
 go_loopg [9] k (fun kq v9 w'=>∃(ap:Int),v9=.int .i64 ap∧Aside0 (impl_WordOk.l0 kq a0 l1 l1 (l1.length:Int) ap=some r)∧Aside0 (kq≤k)∧Drawn0 w w')
 case atStart=>exact ⟨(0),tx_,H',⟨Nat.le_refl _⟩,dz_⟩
 case round =>
  clear H';obtain ⟨ap,rfl,HA,HK1,⟨m1,rfl⟩⟩:=hrel
  cases gk with
  |zero=>exact absurd HA.out (by simp [impl_WordOk.l0])
  |succ k1 =>
   have H:=HA.out;clear HA;simp only [impl_WordOk.l0] at H;replace H:=it_ H;rcases H with ⟨bM,H⟩|⟨bM,H⟩
   ·
    replace H:=in_ H;obtain ⟨bx,H⟩:=H;replace H:=in_ H;obtain ⟨bN,H⟩:=H;replace H:=it_ H;rcases H with ⟨bF,H⟩|⟨bF,H⟩
    ·
     obtain rfl:=Option.some.inj H;obtain ⟨p772,q772,ad772,e772,a8⟩:=a2_ (Kd.at_int HR1.out ap);cases e772;go_wp2;go_ret;exact ⟨tx_,dz_⟩
    ·
     replace H:=ih_ H;rcases H with ⟨cG,H⟩|⟨cG,H⟩
     ·
      obtain rfl:=Option.some.inj H;obtain ⟨p772,q772,ad772,e772,a8⟩:=a2_ (Kd.at_int HR1.out ap);cases e772;go_wp2;go_ret;exact ⟨tx_,dz_⟩
     ·
      have H':=A_ H;clear H;obtain ⟨p772,q772,ad772,e772,a8⟩:=a2_ (Kd.at_int HR1.out ap);cases e772;go_wp2
      go_roundg k1
      case measure=>have:=HK1.out;omega
      case rel=>exact ⟨(wrap64 (ap+1)),tx_,H',⟨by have:=HK1.out;omega⟩,dz_⟩
   ·
    obtain ⟨bC,A8,H⟩:=bnd_ H;(try dsimp only at H);by_cases c9:bC=true
    ·
     subst c9;replace H:=bt_ H
     obtain rfl:=Option.some.inj H;go_wp2_with (first|((with_reducible refine gc_ 47 ?_);refine gl_ (some 22) Tryz.func47 #[.int .i64 a0] ?_;(with_reducible refine (impl_coloursOk.calls a0 true _ A8.out).mono ?_);rintro e w' ⟨rfl,⟨nd,rfl⟩⟩;refine ⟨_,rfl,?_⟩));go_ret;exact ⟨tx_,dz_⟩
    ·
     replace c9:=Bool.eq_false_iff.mpr c9;subst c9;replace H:=bf_ H
     obtain rfl:=Option.some.inj H;go_wp2_with (first|((with_reducible refine gc_ 47 ?_);refine gl_ (some 22) Tryz.func47 #[.int .i64 a0] ?_;(with_reducible refine (impl_coloursOk.calls a0 false _ A8.out).mono ?_);rintro e w' ⟨rfl,⟨nd,rfl⟩⟩;refine ⟨_,rfl,?_⟩));go_ret;exact ⟨tx_,dz_⟩
def slices_Clone_int_int.f (l0:List Int):Option (List Int):=if l0.length*8≤140737488355328 then some l0 else none
theorem slices_Clone_int_int.calls (A0:Option Addr) (c0:Nat) (l0:List Int) (r:List Int) (w:World) (hr0:Kd.C (Kd.int .i64) w A0 l0.length l0) (hc0:l0.length≤c0) (h:slices_Clone_int_int.f l0=some r) :
  Calls Tryz.prog 56 #[.slice A0 l0.length c0] w fun e w'=>∃v0_:Value,e=.returned (v0_)∧Kd.R (Kd.int .i64) 3 w' w.heap.size (fun _=>True) v0_ r∧Below w.heap.size w w':=by
 unfold slices_Clone_int_int.f at h;by_cases hl:l0.length*8≤140737488355328
 ·
  rw [if_pos hl] at h;obtain rfl:=Option.some.inj h;rcases Nat.eq_zero_or_pos l0.length with h0|h0
  ·
   obtain rfl:l0=[]:=List.eq_nil_of_length_eq_zero h0
   cases A0 with
   |none=>exact (Sh.Tryz.slices_Clone_int_nil 0 c0 w).mono fun e w' ⟨he,hw⟩=>⟨.slice none 0 0,he,Kd.R_nil _ _ _ _ _,hw ▸ Below.refl _ _⟩
   |some ad=>exact (Sh.Tryz.slices_Clone_int_zero ad c0 w).mono fun e w' ⟨v,he,ho,_,hb⟩=>⟨v,he,Kd.R_of_own (xs:=[]) ho (fun _ _=>trivial),hb⟩
  ·
   obtain ⟨ad,rfl,hc⟩:=hr0.2.2 h0
   have hcell:∀j,j<l0.length→w.cell? (ad.add j)=some (.int .i64 (l0.getD j 0)):=by
    intro j hj;obtain ⟨c,hc1,hc2,hc3⟩:=hc j _ (List.getElem?_eq_getElem hj);have e1:c=[.int .i64 l0[j]]:=hc2;have:=hc3 0 _ (by rw [e1];rfl);rw [List.getD_eq_getElem?_getD,List.getElem?_eq_getElem hj];simpa [Kd.int,Kd.scalar] using this
   have hs:=hcell 0 h0
   have hsp:ad.spot=none:=by
    cases hq:ad.spot with
    |none=>rfl
    |some q=>simp [World.cell?,Addr.add,hq] at hs;split at hs<;>simp at hs
   obtain ⟨b,o,sp⟩:=ad;simp only at hsp;subst hsp;refine (Sh.Tryz.slices_Clone_int b o l0.length c0 l0 w (Nat.le_refl _) hl (fun j hj=>by have:=hcell j hj;unfold Addr.add at this;split at this<;>simp_all)).mono fun e w' ⟨v,he,ho,_,hb⟩=>⟨v,he,Kd.R_of_own (by rw [List.take_length] at ho;exact ho) (fun _ _=>trivial),hb⟩
 ·
  rw [if_neg hl] at h;exact absurd h (by simp)
end Go.Proofs.YtdllgaelpanblaaGreatDoor.MFnStoreSameWay
