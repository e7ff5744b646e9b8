/- Walks for FnReadJournal: a call returns what the plain function tells. Conditions: in each statement. -/
import Derived.Test.YtabknkhhlbanoaaGreatDoorMFnReadJournalx13
namespace Go.Proofs.YtabknkhhlbanoaaGreatDoor.MFnReadJournal
open Go.RowKit Go.Proofs.YtabknkhhlbanoaaGreatDoorW.PrintWords Go.Proofs.YtabknkhhlbanoaaGreatDoorW.PrintLast Go.Proofs.YtabknkhhlbanoaaGreatDoorW.PrintMore
set_option linter.unusedVariables false
set_option linter.unusedSimpArgs false
set_option maxHeartbeats 8000000
set_option maxRecDepth 100000
def spec_DrawDeskRun.f (k:Nat) (l0:List Int):Option (List Int×Int×List Int×(List (S30))×(List (S41))):=(spec_l20Open.f l0).bind fun aC=>((spec_l20Desk.f k aC.1 aC.2 12).bind fun an=>((spec_l20Rd_odd.f k aC.1 an.2.2.2.2 30).bind fun aX=>(if aX.1=true then (if 41≤11728124029610 then (some (an.1,an.2.1,an.2.2.1,an.2.2.2.1,(List.replicate 41 z41))) else (none)) else ((spec_l20Deeds.f k aC.1 aX.2 an.1 an.2.1 an.2.2.1).bind fun aY=>(some (an.1,an.2.1,an.2.2.1,an.2.2.2.1,aY.1))))))
theorem spec_DrawDeskRun.calls (k:Nat) (A0:Option Addr) (c0:Nat) (l0:List Int) (r1:List Int) (r2:Int) (r3:List Int) (r4:List (S30)) (r5:List (S41)) (w:World) (hr0:Kd.C (Kd.int .u8) w A0 l0.length l0) (hc0:l0.length≤c0) (h:spec_DrawDeskRun.f k l0=some (r1,r2,r3,r4,r5)) :
  Calls Tryz.prog 8 #[.slice A0 l0.length c0] w fun e w'=>∃v0_ v2_ v3_ v4_:Value,e=.returned (.tuple #[.agg #[v0_,.int .i64 r2,v2_,v3_],v4_])∧Kd.R (Kd.int .i64) 3 w' w.heap.size (fun _=>True) v0_ r1∧Kd.R (Kd.int .i64) 3 w' w.heap.size (fun _=>True) v2_ r3∧Kd.Q k30 30 w' w.heap.size (fun _=>True) v3_ r4∧Kd.R k41 41 w' w.heap.size (fun _=>True) v4_ r5∧Below w.heap.size w w':=by
 have hu33:=Tryz.underlying33;have hu30:=Tryz.underlying30;have HR0:=A_ hr0;have HC0:=A_ hc0;clear hr0 hc0;have HB:=A_ (Below.refl w.heap.size w);have H:=h;clear h;unfold spec_DrawDeskRun.f at H;obtain ⟨⟨ar,bf⟩,A2,H⟩:=bnd_ H;(try dsimp only at H);obtain ⟨⟨ai,am,aj,al,aD⟩,A3,H⟩:=bnd_ H;(try dsimp only at H);obtain ⟨⟨ck,aN⟩,A4,H⟩:=bnd_ H;(try dsimp only at H);by_cases c5:ck=true
 ·
  subst c5;replace H:=bt_ H
  replace H:=i0_ H;obtain ⟨c6,H⟩:=H;have aQ:=eq_true c6;have cN:decide (41≤11728124029610)=true:=decide_eq_true c6;clear c6;obtain ⟨bo,a7⟩:∃y_:List (S41),y_=(List.replicate 41 z41):=⟨_,rfl⟩
  replace H:(some (ai,am,aj,al,bo))=some (r1,r2,r3,r4,r5):=yq_ a7 H;have a2:=A_ a7;clear a7;obtain ⟨rfl,rfl,rfl,rfl,rfl⟩:=sj5_ H;go_enter Tryz.func8,Tryz.ntmps8;(try go_wp2_with (first|((with_reducible refine gd_ 2 ?_);refine be_ 2 #[.slice none 0 0,.int .i64 0,.slice none 0 0,.slice none 0 0] 33 ?_;intro ab hg w7 ac hb;have br:=gx_ HB hg;have bs:=gx_ HB hg;replace HB:=bs_ HB hb;clear hb hg)|((with_reducible refine gc_ 16 ?_);refine gl_ (some 7) Tryz.func16 #[.slice A0 l0.length c0] ?_;(with_reducible refine (spec_l20Open.calls _ _ l0 ar bf w _ ?s1 ?s2 ?s3 A2.out).mono ?_);(case s1=>exact tb_ HB.out);(case s2=>exact HR0.out);(case s3=>exact HC0.out);rintro e w8 ⟨g610,rfl,hi,hb,hb2⟩;refine ⟨_,rfl,?_⟩;replace HB:=A_ (hb);have HI610:=A_ (hi);have a5:=A_ (IsS69.ne_blk hi (blk_below (g:=ab) (o:=.cells #[.slice none 0 0,.int .i64 0,.slice none 0 0,.slice none 0 0] 33 (0,0)) (tk_ ac.out) hb2) (by decide));have au:=A_ (Ne.symm (IsS69.ne_blk hi (blk_below (g:=ab) (o:=.cells #[.slice none 0 0,.int .i64 0,.slice none 0 0,.slice none 0 0] 33 (0,0)) (tk_ ac.out) hb2) (by decide)));replace ac:=A_ (blk_below (g:=ab) (o:=.cells #[.slice none 0 0,.int .i64 0,.slice none 0 0,.slice none 0 0] 33 (0,0)) (tk_ ac.out) hb2);(try clear hb hb2 hi))|((with_reducible refine gc_ 24 ?_);refine gl_ (some 9) Tryz.func24 #[.pointer (some ⟨g610,0,none⟩),.int .i64 12] ?_;(with_reducible refine (spec_l20Desk.calls k g610 ar bf 12 ai am aj al aD w _ ?s1 ?s2 A3.out).mono ?_);(case s1=>exact ti69_ HI610.out);(case s2=>exact tu69_ HB.out);rintro e w9 ⟨cl,cm,cn,rfl,ho0,ho1,ho2,hi,hb,hk⟩;refine ⟨_,rfl,?_⟩;replace ac:=kb_ ac hk au;have ag:=A_ (Kd.R_lower ho0 (below_size (tu69_ HB.out)));have ah:=A_ (Kd.R_lower ho1 (below_size (tu69_ HB.out)));have ak:=A_ (Kd.Q_lower ho2 (below_size (tu69_ HB.out)));replace HB:=A_ (hb);replace HI610:=A_ (hi);(try clear hb hb2 hk hi ho0 ho1 ho2))|((with_reducible refine gd_ 5 ?_);refine be_ 5 #[.slice none 0 0,.int .i64 0,.slice none 0 0,.slice none 0 0] 33 ?_;intro ad hg cX ae hb;replace ag:=rb_ ag hb;replace ah:=rb_ ah hb;replace ak:=A_ (Kd.Q_below (rQ_ ak.out) hb);have bu:=A_ ((by rw [hg];exact (below_size (tu69_ HB.out)):w.heap.size≤ad));have bv:=A_ ((by rw [hg];exact (below_size (tu69_ HB.out)):w.heap.size≤ad));replace HB:=tu69_s HB hb;have af:=nl_ ac hg;have aa:=ng_ ac hg;replace ac:=bb_ ac hb;have aG:=A_ ((by rw [hg];exact Nat.ne_of_lt (IsS69.lt (ti69_ HI610.out:IsS69 w _ g610 ar aD)):g610≠ad));have av:=A_ ((by rw [hg];exact Nat.ne_of_gt (IsS69.lt (ti69_ HI610.out:IsS69 w _ g610 ar aD)):ad≠g610));replace HI610:=ti69_b HI610 hb;clear hb hg;obtain ⟨aw,ax,co⟩:=Kd.R_slice ag.out;subst co;have cz:=aa.out;have cA:=af.out;have cB:=av.out;have cC:=aG.out;obtain ⟨bJ,bK,bL,bM,bN,bO,bP,bQ⟩:=cf4_ ae;obtain ⟨ay,ap,bg⟩:=Kd.R_slice ah.out;subst bg;obtain ⟨az,aA,cp,_⟩:=Kd.Q_slice ak.out;subst cp)|((with_reducible refine gc_ 25 ?_);refine gl_ (some 11) Tryz.func25 #[.pointer (some ⟨g610,0,none⟩),.int .i64 30] ?_;(with_reducible refine (spec_l20Rd_odd.calls k g610 ar aD 30 true aN w _ ?s1 ?s2 A4.out).mono ?_);(case s1=>exact ti69_ HI610.out);(case s2=>exact tu69_ HB.out);rintro e bR ⟨rfl,hi,hb,hk⟩;refine ⟨_,rfl,?_⟩;replace ac:=kb_ ac hk au;replace ag:=A_ (Kd.R_mono (Kd.R_keep (IsS69.apart (ti69_ HI610.out:IsS69 w _ g610 ar aD) (wR_ ag ae) (by decide)) hk (fun _ h=>h.2)) (fun _ h=>h.1));replace ah:=A_ (Kd.R_mono (Kd.R_keep (IsS69.apart (ti69_ HI610.out:IsS69 w _ g610 ar aD) (wR_ ah ae) (by decide)) hk (fun _ h=>h.2)) (fun _ h=>h.1));replace ak:=A_ (Kd.Q_mono (Kd.Q_keep (IsS69.apartQ (ti69_ HI610.out:IsS69 w _ g610 ar aD) (wQ_ ak ae) (by decide)) hk (fun _ h=>h.2)) (fun _ h=>h.1));replace ae:=A_ (KeepBut.blk hk (g':=ad) (o:=.cells #[.slice aw ai.length ax,.int .i64 am,.slice ay aj.length ap,.slice az al.length aA] 33 (0,0)) (ps_ ae.out) av.out (by simp));replace HB:=A_ (hb);replace HI610:=A_ (hi);(try clear hb hb2 hk hi))));replace ag:=rd_ ag;replace ah:=rd_ ah;replace ak:=A_ (Kd.Q_drew ak.out);replace ac:=dB_ ac;replace ae:=dB_ ae;replace HI610:=A_ (IsS69.drew HI610.out);replace HB:=A_ (ld_ HB.out);refine sv_ (S:=fun w'=>w'.cell? ⟨ad,0,none⟩=some (.slice aw ai.length ax)∧w'.cell? ⟨ad,1,none⟩=some (.int .i64 am)∧w'.cell? ⟨ad,2,none⟩=some (.slice ay aj.length ap)∧w'.cell? ⟨ad,3,none⟩=some (.slice az al.length aA)) (ds:=[]) hh_ (fun hHeld=>?_);generalize bR.drew=bw at ag ah ak ac ae HI610 HB hHeld ⊢;refine take_ (i:=0) (N:=some 12) (v:=?_) (a':=?_) #[true,false,false,false] rfl rfl (by kernel_rfl) (fun _ _ _ h=>h) (Or.inl ⟨by rfl,?_⟩) hHeld ?_ ?_;rotate_left
  ·
   rintro w' ⟨s0,s1,s2,s3⟩;go_simp;first|with_reducible rfl|(rw [if_neg (by omega)];done)
  rotate_left
  ·
   simp only [Act.put,sa_,sb_,sc_,i64_w,i32_w];rfl
  refine join_ (σ:=Value) 1 #[true,true,true,false] (fun s_=>[(13,s_)]) (fun s_ w'=>(w'.cell? ⟨ad,0,none⟩=some (.slice aw ai.length ax)∧w'.cell? ⟨ad,1,none⟩=some (.int .i64 am)∧w'.cell? ⟨ad,2,none⟩=some (.slice ay aj.length ap)∧w'.cell? ⟨ad,3,none⟩=some (.slice az al.length aA))∧(Kd.R (Kd.int .i64) 3 w' w.heap.size (fun _=>True) (.slice aw ai.length ax) ai)∧(Kd.R (Kd.int .i64) 3 w' w.heap.size (fun _=>True) (.slice ay aj.length ap) aj)∧(Kd.Q k30 30 w' w.heap.size (fun _=>True) (.slice az al.length aA) al)∧(Kd.R k41 41 w' w.heap.size (fun _=>True) s_ bo)∧(w'.heap[ab]?=some (.cells #[.slice aw ai.length ax,.int .i64 am,.slice ay aj.length ap,.slice az al.length aA] 33 (0,0)))∧(w'.heap[ad]?=some (.cells #[.slice aw ai.length ax,.int .i64 am,.slice ay aj.length ap,.slice az al.length aA] 33 (0,0)))∧(IsS69 w w' g610 ar aN)∧(Below w.heap.size w w')) ?_ ?_;rotate_left
  ·
   intro hCont;refine two_ (i:=1) (j:=2) (Ni:=some 13) (Nj:=none) #[true,true,false,false] #[true,false,true,false] rfl rfl rfl rfl (by kernel_rfl) (by decide) (by decide) (fun K hK=>?_) (fun K hK=>?_)
   ·
    skip;refine Kd.R_make_step k41 _ 41 (by rfl) (N:=13) rfl 24 _ _ rfl 41 rfl rfl Tryz.underlying24 (.agg #[(.int .i64 0),(.int .i64 0),(.int .i64 0)]) 24 info41 rfl (by decide) (by omega) z41 (ok:=fun _=>True) (okp:=fun _=>True) (k41_mkM _ _ _ z41) (fun _ hk=>hk) trivial (by omega) (by omega) (Below.refl _ _) (Nat.le_refl _) ?_;intro a8 bS ho20 hb hg_ hnew_;clear hg_ hnew_;(first|rw [←a2.out] at ho20|(simp only [Int.reduceToNat] at ho20;rw [←a2.out] at ho20));replace ag:=rb_ ag hb;replace ah:=rb_ ah hb;replace ak:=A_ (Kd.Q_below (rQ_ ak.out) hb);have aZ:=A_ (Kd.R_lower ho20 (below_size (tu69_ HB.out)));replace ac:=bb_ ac hb;replace HI610:=ti69_b HI610 hb;replace ae:=bb_ ae hb;replace HB:=tu69_s HB hb;clear hb ho20;refine hK.out _ _ hh_ (fun hHeld=>?_);clear hK K;refine nr_ 13 ?_;refine one_ (i:=2) (N:=none) #[true,true,true,false] rfl rfl (by kernel_rfl) (by decide) (fun K hK=>?_);have hs21:bS.cell? ⟨ab,0,none⟩=some (.slice none 0 0):=(blk_cell ac.out 0).trans rfl;have hfs21:=blk_frozen ac.out 0;have bh:=aa.out;have bi:=af.out;have hs22:bS.cell? ⟨ab,1,none⟩=some (.int .i64 0):=(blk_cell ac.out 1).trans rfl;have hfs22:=blk_frozen ac.out 1;have bj:=aa.out;have bk:=af.out;have hs23:bS.cell? ⟨ab,2,none⟩=some (.slice none 0 0):=(blk_cell ac.out 2).trans rfl;have hfs23:=blk_frozen ac.out 2;have bU:=aa.out;have bV:=af.out;have hs24:bS.cell? ⟨ab,3,none⟩=some (.slice none 0 0):=(blk_cell ac.out 3).trans rfl;have hfs24:=blk_frozen ac.out 3;have bW:=aa.out;have bX:=af.out;refine sk_ rfl ?_;refine hK.out _ _ ⟨((c4_ aa.out hHeld.1)),((c4_ aa.out hHeld.2.1)),((c4_ aa.out hHeld.2.2.1)),((c4_ aa.out hHeld.2.2.2))⟩ (fun hHeld=>?_);clear hK K;exact nq_ (hCont (a8) _ ⟨hHeld,(Kd.R_mono (xR_ ag ac) (fun _ hk=>trivial)),(Kd.R_mono (xR_ ah ac) (fun _ hk=>trivial)),(Kd.Q_mono (xQ_ ak ac) (fun _ hk=>trivial)),(Kd.R_mono (xR_ aZ ac) (fun _ hk=>trivial)),(ps_ ac.out),(tk_ ae.out),(ti69_ HI610.out),(tu69_ HB.out)⟩)
   ·
    skip;have hs19:bw.cell? ⟨ab,0,none⟩=some (.slice none 0 0):=(blk_cell ac.out 0).trans rfl;have hfs19:=blk_frozen ac.out 0;have bZ:=aa.out;have b0:=af.out;have hs20:bw.cell? ⟨ab,1,none⟩=some (.int .i64 0):=(blk_cell ac.out 1).trans rfl;have hfs20:=blk_frozen ac.out 1;have b1:=aa.out;have b2:=af.out;have hs21:bw.cell? ⟨ab,2,none⟩=some (.slice none 0 0):=(blk_cell ac.out 2).trans rfl;have hfs21:=blk_frozen ac.out 2;have bh:=aa.out;have bi:=af.out;have hs22:bw.cell? ⟨ab,3,none⟩=some (.slice none 0 0):=(blk_cell ac.out 3).trans rfl;have hfs22:=blk_frozen ac.out 3;have bj:=aa.out;have bk:=af.out;refine sk_ rfl ?_;refine hK.out _ _ ⟨((c4_ aa.out hHeld.1)),((c4_ aa.out hHeld.2.1)),((c4_ aa.out hHeld.2.2.1)),((c4_ aa.out hHeld.2.2.2))⟩ (fun hHeld=>?_);clear hK K;refine one_ (i:=1) (N:=some 13) #[true,true,true,false] rfl rfl (by kernel_rfl) (by decide) (fun K hK=>?_);refine Kd.R_make_step k41 _ 41 (by rfl) (N:=13) rfl 24 _ _ rfl 41 rfl rfl Tryz.underlying24 (.agg #[(.int .i64 0),(.int .i64 0),(.int .i64 0)]) 24 info41 rfl (by decide) (by omega) z41 (ok:=fun _=>True) (okp:=fun _=>True) (k41_mkM _ _ _ z41) (fun _ hk=>hk) trivial (by omega) (by omega) (Below.refl _ _) (Nat.le_refl _) ?_;intro a8 cY ho24 hb hg_ hnew_;clear hg_ hnew_;(first|rw [←a2.out] at ho24|(simp only [Int.reduceToNat] at ho24;rw [←a2.out] at ho24));replace ag:=A_ (Kd.R_below (wR_ ag ac) hb);replace ah:=A_ (Kd.R_below (wR_ ah ac) hb);replace ak:=A_ (Kd.Q_below (wQ_ ak ac) hb);have aZ:=A_ (Kd.R_lower ho24 (below_size (tu69_ HB.out)));replace ac:=bp_ #[.slice aw ai.length ax,.int .i64 am,.slice ay aj.length ap,.slice az al.length aA] ac hb;replace HI610:=A_ (IsS69.below (show IsS69 w ((((bw.setCell ⟨ab,0,none⟩ (.slice aw ai.length ax)).setCell ⟨ab,1,none⟩ (.int .i64 am)).setCell ⟨ab,2,none⟩ (.slice ay aj.length ap)).setCell ⟨ab,3,none⟩ (.slice az al.length aA)) g610 ar aN from ti69_ HI610.out) hb);replace ae:=bb_ ae hb;replace HB:=tu69_s HB hb;clear hb ho24;refine hK.out _ _ hh_ (fun hHeld=>?_);clear hK K;refine nr_ 13 ?_;exact nq_ (hCont (a8) _ ⟨hHeld,(rR_ ag.out),(rR_ ah.out),(rQ_ ak.out),(rR_ aZ.out),(tk_ ac.out),(tk_ ae.out),(ti69_ HI610.out),(tu69_ HB.out)⟩)
  rintro a8 a6 ⟨hS_,h0_,h1_,h2_,h3_,h4_,h5_,h6_,h7_⟩;replace ag:Aside0 (Kd.R (Kd.int .i64) 3 a6 w.heap.size (fun _=>True) (.slice aw ai.length ax) ai):=⟨h0_⟩
  replace ah:Aside0 (Kd.R (Kd.int .i64) 3 a6 w.heap.size (fun _=>True) (.slice ay aj.length ap) aj):=⟨h1_⟩
  replace ak:Aside0 (Kd.Q k30 30 a6 w.heap.size (fun _=>True) (.slice az al.length aA) al):=⟨h2_⟩
  have aZ:Aside0 (Kd.R k41 41 a6 w.heap.size (fun _=>True) a8 bo):=⟨h3_⟩
  replace ac:Aside0 (a6.heap[ab]?=some (.cells #[.slice aw ai.length ax,.int .i64 am,.slice ay aj.length ap,.slice az al.length aA] 33 (0,0))):=⟨h4_⟩
  replace ae:Aside0 (a6.heap[ad]?=some (.cells #[.slice aw ai.length ax,.int .i64 am,.slice ay aj.length ap,.slice az al.length aA] 33 (0,0))):=⟨h5_⟩
  replace HI610:Aside0 (IsS69 w a6 g610 ar aN):=⟨h6_⟩
  replace HB:Aside0 (Below w.heap.size w a6):=⟨h7_⟩
  clear h0_ h1_ h2_ h3_ h4_ h5_ h6_ h7_;have hHeld:a6.cell? ⟨ad,0,none⟩=some (.slice aw ai.length ax)∧a6.cell? ⟨ad,1,none⟩=some (.int .i64 am)∧a6.cell? ⟨ad,2,none⟩=some (.slice ay aj.length ap)∧a6.cell? ⟨ad,3,none⟩=some (.slice az al.length aA):=hS_;refine norm_ (a':=?_) ?_ ?_;rotate_left
  ·
   simp only [putAll,Act.put,sa_,sb_,sc_];rfl
  refine pure_ (i:=3) (N:=some 3) (v:=?_) (a':=?_) #[true,true,true,true] rfl rfl (by kernel_rfl) (fun _ _ _ h=>h) (Or.inl ⟨by rfl,?_⟩) ?_ ?_;rotate_left
  ·
   intro w';go_simp;first|with_reducible rfl|(rw [if_neg (by omega)];done)
  rotate_left
  ·
   simp only [Act.put,sa_,sb_,sc_,i64_w,i32_w];rfl
  refine done_ (by kernel_rfl) ?_;(try go_wp2);refine bodyPost_ret (results_ct rfl _ _ ab 33 #[.slice aw ai.length ax,.int .i64 am,.slice ay aj.length ap,.slice az al.length aA] (0,0) _ rfl (tk_ ac.out) Tryz.underlying33 rfl (by kernel_rfl)) rfl ?_;exact ⟨_,_,_,_,tw_,by refine qR_ ?_;exact ag.out,by refine qR_ ?_;exact ah.out,by refine qQ_ ?_;exact ak.out,by refine qR_ ?_;exact aZ.out,tu69_ HB.out⟩
 ·
  replace c5:=Bool.eq_false_iff.mpr c5;subst c5;replace H:=bf_ H
  obtain ⟨⟨cq,cr⟩,A26,H⟩:=bnd_ H;(try dsimp only at H);obtain ⟨rfl,rfl,rfl,rfl,rfl⟩:=sj5_ H;go_enter Tryz.func8,Tryz.ntmps8;(try go_wp2_with (first|((with_reducible refine gd_ 2 ?_);refine be_ 2 #[.slice none 0 0,.int .i64 0,.slice none 0 0,.slice none 0 0] 33 ?_;intro ab hg cZ ac hb;have br:=gx_ HB hg;have bs:=gx_ HB hg;replace HB:=bs_ HB hb;clear hb hg)|((with_reducible refine gc_ 16 ?_);refine gl_ (some 7) Tryz.func16 #[.slice A0 l0.length c0] ?_;(with_reducible refine (spec_l20Open.calls _ _ l0 ar bf w _ ?s1 ?s2 ?s3 A2.out).mono ?_);(case s1=>exact tb_ HB.out);(case s2=>exact HR0.out);(case s3=>exact HC0.out);rintro e c1 ⟨g610,rfl,hi,hb,hb2⟩;refine ⟨_,rfl,?_⟩;replace HB:=A_ (hb);have HI610:=A_ (hi);have a5:=A_ (IsS69.ne_blk hi (blk_below (g:=ab) (o:=.cells #[.slice none 0 0,.int .i64 0,.slice none 0 0,.slice none 0 0] 33 (0,0)) (tk_ ac.out) hb2) (by decide));have au:=A_ (Ne.symm (IsS69.ne_blk hi (blk_below (g:=ab) (o:=.cells #[.slice none 0 0,.int .i64 0,.slice none 0 0,.slice none 0 0] 33 (0,0)) (tk_ ac.out) hb2) (by decide)));replace ac:=A_ (blk_below (g:=ab) (o:=.cells #[.slice none 0 0,.int .i64 0,.slice none 0 0,.slice none 0 0] 33 (0,0)) (tk_ ac.out) hb2);(try clear hb hb2 hi))|((with_reducible refine gc_ 24 ?_);refine gl_ (some 9) Tryz.func24 #[.pointer (some ⟨g610,0,none⟩),.int .i64 12] ?_;(with_reducible refine (spec_l20Desk.calls k g610 ar bf 12 ai am aj al aD w _ ?s1 ?s2 A3.out).mono ?_);(case s1=>exact ti69_ HI610.out);(case s2=>exact tu69_ HB.out);rintro e c8 ⟨cl,cm,cn,rfl,ho0,ho1,ho2,hi,hb,hk⟩;refine ⟨_,rfl,?_⟩;replace ac:=kb_ ac hk au;have ag:=A_ (Kd.R_lower ho0 (below_size (tu69_ HB.out)));have ah:=A_ (Kd.R_lower ho1 (below_size (tu69_ HB.out)));have ak:=A_ (Kd.Q_lower ho2 (below_size (tu69_ HB.out)));replace HB:=A_ (hb);replace HI610:=A_ (hi);(try clear hb hb2 hk hi ho0 ho1 ho2))|((with_reducible refine gd_ 5 ?_);refine be_ 5 #[.slice none 0 0,.int .i64 0,.slice none 0 0,.slice none 0 0] 33 ?_;intro ad hg c9 ae hb;replace ag:=rb_ ag hb;replace ah:=rb_ ah hb;replace ak:=A_ (Kd.Q_below (rQ_ ak.out) hb);have bu:=A_ ((by rw [hg];exact (below_size (tu69_ HB.out)):w.heap.size≤ad));have bv:=A_ ((by rw [hg];exact (below_size (tu69_ HB.out)):w.heap.size≤ad));replace HB:=tu69_s HB hb;have af:=nl_ ac hg;have aa:=ng_ ac hg;replace ac:=bb_ ac hb;have aG:=A_ ((by rw [hg];exact Nat.ne_of_lt (IsS69.lt (ti69_ HI610.out:IsS69 w _ g610 ar aD)):g610≠ad));have av:=A_ ((by rw [hg];exact Nat.ne_of_gt (IsS69.lt (ti69_ HI610.out:IsS69 w _ g610 ar aD)):ad≠g610));replace HI610:=ti69_b HI610 hb;clear hb hg;obtain ⟨aI,aJ,ct⟩:=Kd.R_slice ag.out;subst ct;have cD:=aa.out;have cE:=af.out;have cF:=av.out;have cG:=aG.out;obtain ⟨b3,b4,b5,b6,b7,b8,b9,ca⟩:=cf4_ ae;obtain ⟨aK,aM,cu⟩:=Kd.R_slice ah.out;subst cu;obtain ⟨aR,aU,cv,_⟩:=Kd.Q_slice ak.out;subst cv)|((with_reducible refine gc_ 25 ?_);refine gl_ (some 11) Tryz.func25 #[.pointer (some ⟨g610,0,none⟩),.int .i64 30] ?_;(with_reducible refine (spec_l20Rd_odd.calls k g610 ar aD 30 false aN w _ ?s1 ?s2 A4.out).mono ?_);(case s1=>exact ti69_ HI610.out);(case s2=>exact tu69_ HB.out);rintro e cO ⟨rfl,hi,hb,hk⟩;refine ⟨_,rfl,?_⟩;replace ac:=kb_ ac hk au;replace ag:=A_ (Kd.R_mono (Kd.R_keep (IsS69.apart (ti69_ HI610.out:IsS69 w _ g610 ar aD) (wR_ ag ae) (by decide)) hk (fun _ h=>h.2)) (fun _ h=>h.1));replace ah:=A_ (Kd.R_mono (Kd.R_keep (IsS69.apart (ti69_ HI610.out:IsS69 w _ g610 ar aD) (wR_ ah ae) (by decide)) hk (fun _ h=>h.2)) (fun _ h=>h.1));replace ak:=A_ (Kd.Q_mono (Kd.Q_keep (IsS69.apartQ (ti69_ HI610.out:IsS69 w _ g610 ar aD) (wQ_ ak ae) (by decide)) hk (fun _ h=>h.2)) (fun _ h=>h.1));replace ae:=A_ (KeepBut.blk hk (g':=ad) (o:=.cells #[.slice aI ai.length aJ,.int .i64 am,.slice aK aj.length aM,.slice aR al.length aU] 33 (0,0)) (ps_ ae.out) av.out (by simp));replace HB:=A_ (hb);replace HI610:=A_ (hi);(try clear hb hb2 hk hi))));replace ag:=rd_ ag;replace ah:=rd_ ah;replace ak:=A_ (Kd.Q_drew ak.out);replace ac:=dB_ ac;replace ae:=dB_ ae;replace HI610:=A_ (IsS69.drew HI610.out);replace HB:=A_ (ld_ HB.out);refine sv_ (S:=fun w'=>w'.cell? ⟨ad,0,none⟩=some (.slice aI ai.length aJ)∧w'.cell? ⟨ad,1,none⟩=some (.int .i64 am)∧w'.cell? ⟨ad,2,none⟩=some (.slice aK aj.length aM)∧w'.cell? ⟨ad,3,none⟩=some (.slice aR al.length aU)) (ds:=[]) hh_ (fun hHeld=>?_);generalize cO.drew=da at ag ah ak ac ae HI610 HB hHeld ⊢;refine pure_ (i:=1) (N:=some 15) (v:=?_) (a':=?_) #[false,true,false,false,false,false,false] rfl rfl (by kernel_rfl) (fun _ _ _ h=>h) (Or.inl ⟨by rfl,?_⟩) ?_ ?_;rotate_left
  ·
   intro w';go_simp;first|with_reducible rfl|(rw [if_neg (by omega)];done)
  rotate_left
  ·
   simp only [Act.put,sa_,sb_,sc_,i64_w,i32_w];rfl
  refine pure_ (i:=2) (N:=some 16) (v:=?_) (a':=?_) #[false,true,true,false,false,false,false] rfl rfl (by kernel_rfl) (fun _ _ _ h=>h) (Or.inl ⟨by rfl,?_⟩) ?_ ?_;rotate_left
  ·
   intro w';go_simp;first|with_reducible rfl|(rw [if_neg (by omega)];done)
  rotate_left
  ·
   simp only [Act.put,sa_,sb_,sc_,i64_w,i32_w];rfl
  refine take_ (i:=0) (N:=some 14) (v:=?_) (a':=?_) #[true,true,true,false,false,false,false] rfl rfl (by kernel_rfl) (fun _ _ _ h=>h) (Or.inl ⟨by rfl,?_⟩) hHeld ?_ ?_;rotate_left
  ·
   rintro w' ⟨s0,s1,s2,s3⟩;go_simp;first|with_reducible rfl|(rw [if_neg (by omega)];done)
  rotate_left
  ·
   simp only [Act.put,sa_,sb_,sc_,i64_w,i32_w];rfl
  refine take_ (i:=3) (N:=some 17) (v:=?_) (a':=?_) #[true,true,true,true,false,false,false] rfl rfl (by kernel_rfl) (fun _ _ _ h=>h) (Or.inl ⟨by rfl,?_⟩) hHeld ?_ ?_;rotate_left
  ·
   rintro w' ⟨s0,s1,s2,s3⟩;go_simp;first|with_reducible rfl|(rw [if_neg (by omega)];done)
  rotate_left
  ·
   simp only [Act.put,sa_,sb_,sc_,i64_w,i32_w];rfl
  refine one_ (i:=4) (N:=some 18) #[true,true,true,true,true,false,false] rfl rfl (by kernel_rfl) (by decide) (fun K hK=>?_);refine goes_ Tryz.func26 (by kernel_rfl) rfl #[.pointer (some ⟨g610,0,none⟩),.agg #[.slice aI ai.length aJ,.int .i64 am,.slice aK aj.length aM]] (by rfl) rfl rfl tz_ ?_;(with_reducible refine (spec_l20Deeds.calls k g610 ar aN _ _ ai am _ _ aj cq cr w _ ?s1 ?s2 ?s3 ?s4 ?s5 ?s6 ?s7 ?s8 A26.out).mono ?_);(case s1=>exact ti69_ HI610.out);(case s2=>exact tu69_ HB.out);(case s3=>exact rc_ ag);(case s4=>exact (ll_ ag));(case s5=>exact far_slice (IsS69.own_ne HI610.out ag.out (by decide)));(case s6=>exact rc_ ah);(case s7=>exact (ll_ ah));(case s8=>exact far_slice (IsS69.own_ne HI610.out ah.out (by decide)));rintro e cb ⟨cP,rfl,ho0,hi,hb,hk⟩;refine ⟨_,rfl,?_⟩;replace ac:=kb_ ac hk au;replace ag:=A_ (Kd.R_mono (Kd.R_keep (IsS69.apart (ti69_ HI610.out:IsS69 w _ g610 ar aN) (rR_ ag.out) (by decide)) hk (fun _ h=>h.2)) (fun _ h=>h.1));replace ah:=A_ (Kd.R_mono (Kd.R_keep (IsS69.apart (ti69_ HI610.out:IsS69 w _ g610 ar aN) (rR_ ah.out) (by decide)) hk (fun _ h=>h.2)) (fun _ h=>h.1));replace ak:=A_ (Kd.Q_mono (Kd.Q_keep (IsS69.apartQ (ti69_ HI610.out:IsS69 w _ g610 ar aN) (rQ_ ak.out) (by decide)) hk (fun _ h=>h.2)) (fun _ h=>h.1));replace ae:=kb_ ae hk av;have bx:=A_ (Kd.R_lower ho0 (below_size (tu69_ HB.out)));replace HB:=A_ (hb);replace HI610:=A_ (hi);(try clear hb);(try clear hb2);(try clear hk);(try clear hi);(try clear ho0);refine hK.out _ _ hh_ (fun hHeld=>?_);clear hK K;refine nr_ 18 ?_;refine one_ (i:=5) (N:=none) #[true,true,true,true,true,true,false] rfl rfl (by kernel_rfl) (by decide) (fun K hK=>?_);have hs40:cb.cell? ⟨ab,0,none⟩=some (.slice none 0 0):=(blk_cell ac.out 0).trans rfl;have hfs40:=blk_frozen ac.out 0;have cc:=aa.out;have cd:=af.out;have hs41:cb.cell? ⟨ab,1,none⟩=some (.int .i64 0):=(blk_cell ac.out 1).trans rfl;have hfs41:=blk_frozen ac.out 1;have ce:=aa.out;have cf:=af.out;have hs42:cb.cell? ⟨ab,2,none⟩=some (.slice none 0 0):=(blk_cell ac.out 2).trans rfl;have hfs42:=blk_frozen ac.out 2;have cg:=aa.out;have ch:=af.out;have hs43:cb.cell? ⟨ab,3,none⟩=some (.slice none 0 0):=(blk_cell ac.out 3).trans rfl;have hfs43:=blk_frozen ac.out 3;have ci:=aa.out;have cj:=af.out;refine sk_ rfl ?_;refine hK.out _ _ ⟨((c4_ aa.out hHeld.1)),((c4_ aa.out hHeld.2.1)),((c4_ aa.out hHeld.2.2.1)),((c4_ aa.out hHeld.2.2.2))⟩ (fun hHeld=>?_);clear hK K;refine pure_ (i:=6) (N:=some 3) (v:=?_) (a':=?_) #[true,true,true,true,true,true,true] rfl rfl (by kernel_rfl) (fun _ _ _ h=>h) (Or.inl ⟨by rfl,?_⟩) ?_ ?_;rotate_left
  ·
   intro w';go_simp;first|with_reducible rfl|(rw [if_neg (by omega)];done)
  rotate_left
  ·
   simp only [Act.put,sa_,sb_,sc_,i64_w,i32_w];rfl
  refine done_ (by kernel_rfl) ?_;(try go_wp2);refine bodyPost_ret (results_ct rfl _ _ ab 33 #[.slice aI ai.length aJ,.int .i64 am,.slice aK aj.length aM,.slice aR al.length aU] (0,0) _ rfl (ps_ ac.out) Tryz.underlying33 rfl (by kernel_rfl)) rfl ?_;exact ⟨_,_,_,_,tw_,Kd.R_mono (xR_ ag ac) (fun _ hk=>trivial),Kd.R_mono (xR_ ah ac) (fun _ hk=>trivial),Kd.Q_mono (xQ_ ak ac) (fun _ hk=>trivial),Kd.R_mono (xR_ bx ac) (fun _ hk=>trivial),tu69_ HB.out⟩
def impl_coloursOk.f (a0:Int):Option (Bool):=if a0≥1 then (some (decide (a0≤3))) else (some false)
theorem impl_coloursOk.calls (a0:Int) (r:Bool) (w:World) (h:impl_coloursOk.f a0=some r) :
  Calls Tryz.prog 72 #[.int .i64 a0] w fun e w'=>e=.returned (.bool r)∧Drawn0 w w':=by
 have H:=h;clear h;unfold impl_coloursOk.f at H;replace H:=ih_ H;rcases H with ⟨bp,H⟩|⟨bp,H⟩
 ·
  obtain rfl:=Option.some.inj H;go_enter Tryz.func72,Tryz.ntmps72;go_wp2;go_ret;exact ⟨tx_,dz_⟩
 ·
  obtain rfl:=Option.some.inj H;go_enter Tryz.func72,Tryz.ntmps72;go_wp2;go_ret;exact ⟨tx_,dz_⟩
mutual
def impl_SameRule.j0:Nat→Int→Int→Bool→Option ((List (List Int)))
 |0,_,_,_=>none
 |k+1,x0,x1,x18=>if x18=true then (some ([]:List (List Int))) else (impl_SameRule.l0 k x0 x1 (([]:List (List Int))) x0 0)
def impl_SameRule.l0:Nat→Int→Int→List (List Int)→Int→Int→Option ((List (List Int)))
 |0,_,_,_,_,_=>none
 |k+1,x0,x1,x5,x20,x21=>if x21<x20 then (if 0≤x0 then (if (x0:Int).toNat≤35184372088832 then ((some (List.replicate (x0:Int).toNat 0:List Int)).bind fun aE=>(if 0≤x21 then (if x21<(aE.length:Int) then (if x5.length<5864062014805 then (impl_SameRule.l0 k x0 x1 (x5++[(aE.set (x21:Int).toNat x1)]) x20 (wrap64 (x21+1))) else (none)) else (none)) else (none))) else (none)) else (none)) else (some x5)
end
def impl_SameRule.f (k:Nat) (a0:Int) (a1:Int):Option ((List (List Int))):=(impl_coloursOk.f a0).bind fun a9=>(if a9=true then (if a1<(-1) then (impl_SameRule.j0 k a0 a1 true) else (impl_SameRule.j0 k a0 a1 (decide (a1>3)))) else (impl_SameRule.j0 k a0 a1 true))
theorem impl_SameRule.mono_l:∀k,(∀y0 y1 y2,LeO (impl_SameRule.j0 k y0 y1 y2) (impl_SameRule.j0 (k+1) y0 y1 y2))∧(∀y0 y1 y2 y3 y4,LeO (impl_SameRule.l0 k y0 y1 y2 y3 y4) (impl_SameRule.l0 (k+1) y0 y1 y2 y3 y4))
 |0=>⟨fun _ _ _ r h=>by simp [impl_SameRule.j0] at h,fun _ _ _ _ _ r h=>by simp [impl_SameRule.l0] at h⟩
 |k+1=>by
  obtain ⟨ih0,ih1⟩:=impl_SameRule.mono_l k
  refine ⟨?_,?_⟩
  ·
   intro y0 y1 y2
   unfold impl_SameRule.j0
   repeat' (with_reducible first|exact ih0 _ _ _|exact ih1 _ _ _ _ _|exact mr_|exact mn_|refine mi_ ?_ ?_|refine mb_ ?_ (fun _=>?_))
  ·
   intro y0 y1 y2 y3 y4
   unfold impl_SameRule.l0
   repeat' (with_reducible first|exact ih0 _ _ _|exact ih1 _ _ _ _ _|exact mr_|exact mn_|refine mi_ ?_ ?_|refine mb_ ?_ (fun _=>?_))
theorem impl_SameRule.mono:∀a0 a1 k,LeO (impl_SameRule.f k a0 a1) (impl_SameRule.f (k+1) a0 a1):=by
 intro a0 a1 k;obtain ⟨ih0,ih1⟩:=impl_SameRule.mono_l k;unfold impl_SameRule.f;repeat' (with_reducible first|exact ih0 _ _ _|exact ih1 _ _ _ _ _|exact mr_|exact mn_|refine mi_ ?_ ?_|refine mb_ ?_ (fun _=>?_))
theorem impl_SameRule.calls (k:Nat) (a0:Int) (a1:Int) (r:List (List Int)) (w:World) (h:impl_SameRule.f k a0 a1=some r) :
  Calls Tryz.prog 56 #[.int .i64 a0,.int .i64 a1] w fun e w'=>∃v0_:Value,e=.returned (v0_)∧Kd.S (Kd.slice 3 (Kd.int .i64)) 28 w' w.heap.size (fun _=>True) v0_ r∧Below w.heap.size w w':=by
 have HB:=A_ (Below.refl w.heap.size w);have H:=h;clear h;unfold impl_SameRule.f at H;have HC3:=A_ H;clear H;go_enter Tryz.func56,Tryz.ntmps56
 go_upto_region 1 with (fail)
 go_cut [18] (fun cQ wc=>∃(kq:Nat) (a3:Bool),cQ=.bool a3∧Aside0 (impl_SameRule.j0 kq a0 a1 a3=some r)∧Aside0 (kq≤k)∧Aside0 (Below w.heap.size w wc))
 case first =>
  have H:=HC3.out;clear HC3;obtain ⟨a9,A4,H⟩:=bnd_ H;(try dsimp only at H);by_cases c5:a9=true
  ·
   subst c5;replace H:=bt_ H
   replace H:=it_ H;rcases H with ⟨aQ,H⟩|⟨aQ,H⟩
   ·
    (first|rw [aQ]|(simp only [i64_w,i32_w];rw [aQ])|skip);have H':=A_ H;clear H;go_wp2_with (first|((with_reducible refine gc_ 72 ?_);refine gl_ (some 9) Tryz.func72 #[.int .i64 a0] ?_;(with_reducible refine (impl_coloursOk.calls a0 true _ A4.out).mono ?_);rintro e w' ⟨rfl,⟨nd,rfl⟩⟩;refine ⟨_,rfl,?_⟩));go_meet
    case rel=>exact ⟨_,(true),tx_,H',⟨by first|omega|exact Nat.le_refl _⟩,⟨(tb_ HB.out)⟩⟩
   ·
    (first|rw [aQ]|(simp only [i64_w,i32_w];rw [aQ])|skip);have H':=A_ H;clear H;go_wp2_with (first|((with_reducible refine gc_ 72 ?_);refine gl_ (some 9) Tryz.func72 #[.int .i64 a0] ?_;(with_reducible refine (impl_coloursOk.calls a0 true _ A4.out).mono ?_);rintro e w' ⟨rfl,⟨nd,rfl⟩⟩;refine ⟨_,rfl,?_⟩));go_meet
    case rel=>exact ⟨_,(decide (a1>3)),tx_,H',⟨by first|omega|exact Nat.le_refl _⟩,⟨(tb_ HB.out)⟩⟩
  ·
   replace c5:=Bool.eq_false_iff.mpr c5;subst c5;replace H:=bf_ H
   have H':=A_ H;clear H;go_wp2_with (first|((with_reducible refine gc_ 72 ?_);refine gl_ (some 9) Tryz.func72 #[.int .i64 a0] ?_;(with_reducible refine (impl_coloursOk.calls a0 false _ A4.out).mono ?_);rintro e w' ⟨rfl,⟨nd,rfl⟩⟩;refine ⟨_,rfl,?_⟩));go_meet
   case rel=>exact ⟨_,(true),tx_,H',⟨by first|omega|exact Nat.le_refl _⟩,⟨(tb_ HB.out)⟩⟩
 case rest =>
  clear HC3;obtain ⟨kq,a3,rfl,HA,HJ2,HB⟩:=hcut
  cases kq with
  |zero=>exact absurd HA.out (by simp [impl_SameRule.j0])
  |succ kj2 =>
   have H:=HA.out;clear HA;simp only [impl_SameRule.j0] at H;by_cases c7:a3=true
   ·
    subst c7;replace H:=bt_ H
    obtain rfl:=Option.some.inj H;go_wp2;go_ret;exact ⟨_,tw_,by first|exact Kd.S_nil _ _ _ _ _|exact Kd.N_nil _ _ _ _ _|exact Kd.V_nil _ _ _ _ _|exact Kd.Q_nil _ _ _ _ _|exact Kd.R_nil _ _ _ _ _,(tb_ HB.out)⟩
   ·
    replace c7:=Bool.eq_false_iff.mpr c7;subst c7;replace H:=bf_ H
    obtain ⟨bz,bb⟩:∃y_:List (List Int),y_=(([]:List (List Int))):=⟨_,rfl⟩
    replace H:(impl_SameRule.l0 kj2 a0 a1 bz a0 0)=some r:=yq_ bb H;have bm:=A_ bb;clear bb;have H':=A_ H;clear H;go_wp2_with (first|((with_reducible refine gd_ 19 ?_);refine Kd.S_lit (Kd.slice 3 (Kd.int .i64)) _ 28 ?hg (N:=19) ?hd (xs:=([]:List (List Int))) (inner:=[]) (ok:=fun _=>True) (okp:=fun _=>True) ?hr ?hp (fun _ hk=>hk) trivial (Below.refl _ _) (Nat.le_refl _) (by simp) ?_;(case hd=>rfl);(case hg=>rfl);(case hr=>first|(go_simp;done)|(go_simp;rfl));(case hp=>exact (Reps.none _ _));intro cR w8 ho9 hb hg_ hnew_;clear hg_ hnew_;(first|rw [←bm.out] at ho9|(simp only [Int.reduceToNat] at ho9;rw [←bm.out] at ho9));have bB:=A_ (Kd.S_lower ho9 (below_size (tb_ HB.out)));replace HB:=bs_ HB hb;clear hb ho9))
    go_loopg [5,21] kj2 (fun kq v5 cS w'=>∃(aV:List (List Int)) (ao:Int),cS=.int .i64 ao∧Aside0 (impl_SameRule.l0 kq a0 a1 aV a0 ao=some r)∧Aside0 (kq≤kj2)∧Aside0 (Kd.S (Kd.slice 3 (Kd.int .i64)) 28 w' w.heap.size (fun _=>True) v5 aV)∧Aside0 (Below w.heap.size w w'))
    case atStart=>exact ⟨(bz),(0),tx_,H',⟨Nat.le_refl _⟩,⟨rS_ bB.out⟩,⟨(tb_ HB.out)⟩⟩
    case round =>
     clear H';(try clear c7);obtain ⟨aV,ao,rfl,HA,HK2,aW,HB⟩:=hrel
     cases gk with
     |zero=>exact absurd HA.out (by simp [impl_SameRule.l0])
     |succ k2 =>
      have H:=HA.out;clear HA;simp only [impl_SameRule.l0] at H;replace H:=it_ H;rcases H with ⟨bC,H⟩|⟨bC,H⟩
      ·
       replace H:=i0_ H;obtain ⟨c11,H⟩:=H;have cH:=eq_true c11;have cI:decide (0≤a0)=true:=decide_eq_true c11;clear c11;replace H:=i0_ H;obtain ⟨c12,H⟩:=H;have cJ:=eq_true c12;have cK:decide ((a0:Int).toNat≤35184372088832)=true:=decide_eq_true c12;clear c12;obtain ⟨aE,bc⟩:∃y_:List Int,y_=(List.replicate (a0:Int).toNat 0):=⟨_,rfl⟩
       replace H:(if 0≤ao then (if ao<(aE.length:Int) then (if aV.length<5864062014805 then (impl_SameRule.l0 k2 a0 a1 (aV++[(aE.set (ao:Int).toNat a1)]) a0 (wrap64 (ao+1))) else (none)) else (none)) else (none))=some r:=yq_ bc H;have bn:=A_ bc;clear bc;replace H:=in_ H;obtain ⟨cL,H⟩:=H;replace H:=in_ H;obtain ⟨cM,H⟩:=H;obtain ⟨bl,bd⟩:∃y_:List Int,y_=(aE.set (ao:Int).toNat a1):=⟨_,rfl⟩
       replace H:(if aV.length<5864062014805 then (impl_SameRule.l0 k2 a0 a1 (aV++[bl]) a0 (wrap64 (ao+1))) else (none))=some r:=yq_ bd H;have bD:=A_ bd;clear bd;replace H:=il_ H;obtain ⟨bE,H⟩:=H;obtain ⟨bF,be⟩:∃y_:List (List Int),y_=(aV++[bl]):=⟨_,rfl⟩
       replace H:(impl_SameRule.l0 k2 a0 a1 bF a0 (wrap64 (ao+1)))=some r:=yq_ be H;have bG:=A_ be;clear be;have H':=A_ H;clear H;go_wp2_with (first|((with_reducible refine gd_ 25 ?_);refine Kd.R_make (Kd.int .i64) _ 3 rfl (N:=25) rfl 28 _ _ rfl a0 rfl rfl Tryz.underlying28 (.int .i64 0) 8 info3 rfl (by decide) (by omega) 0 (ok:=fun _=>True) (okp:=fun _=>True) rfl (fun _ hk=>hk) trivial (od_) (Nat.le_trans (Nat.mul_le_mul_right _ (od_:a0.toNat≤35184372088832)) (by omega)) (Below.refl _ _) (Nat.le_refl _) ?_;intro cT bR ho18 hb hg_ hnew_;clear hg_ hnew_;(first|rw [←bn.out] at ho18|(simp only [Int.reduceToNat] at ho18;rw [←bn.out] at ho18));replace aW:=A_ (Kd.S_elder' (rS_ aW.out) (Kd.R_base ho18) hb);have aH:=rx_ ho18 HB;replace HB:=bs_ HB hb;clear hb ho18;have p15:0≤(ao:Int):=od_;have q15:(ao:Int)<((aE.length:Int):Int):=od_;obtain ⟨go15,ap,bg,bH,gl15,cl15,HG15⟩:=Kd.R_form aH.out (by omega);(first|cases bg|(injection bg with ea_ en_ ec_;(first|subst ea_|(injection ea_ with ea_;subst ea_));subst ec_;clear en_));have GB15:=A_ bH;have GG15:=A_ HG15;clear bH gl15 HG15;obtain ⟨cw,hf15_0⟩:=Kd.R_celln 0 aH.out (ao:Int) p15 q15;replace p15:=eq_true p15;replace q15:=eq_true q15;obtain ⟨hy19_,hz19_⟩:=Kd.R_celln 0 aH.out (ao:Int) (od_) (od_);have HP19:=Kd.R_putg aH.out (ao:Int) a1)|((with_reducible refine gate_store (t:=3) (p:=29) rfl ?_);refine store_event (t:=3) (p:=29) (v:=?vo_w20) (w1:=(bR.setCell ⟨go15,(ao:Int).toNat,none⟩ (.int .i64 a1))) ?hg ?ho ?hn ?hr ?_;(case ho=>rfl);(case hg=>rfl);(case hn=>rfl);(case hr=>first|(go_simp;done)|(go_simp;rfl));intro cx hw;have hg:bR.grownBy cx (some go15):=(by rw [hw];exact HP19.2);have hp_:Kd.R (Kd.int .i64) 3 cx w.heap.size (fun _=>True) (.slice (some ⟨go15,0,none⟩) aE.length ap) bl:=(by rw [hw,bD.out];exact HP19.1);clear HP19;replace aW:=A_ (Kd.S_after (v:=(.slice (some ⟨go15,0,none⟩) aE.length ap)) (v1:=(.slice (some ⟨go15,0,none⟩) aE.length ap)) (ok:=(fun _=>True)) (rS_ aW.out) hg (.inl rfl));replace aH:=A_ (hp_);replace HB:=A_ ((by rw [hw];exact below_set (HB.out) GB15.out:Below w.heap.size w cx));clear hg hw hp_)|((with_reducible refine gate_builtin (b:=.append) (xs:=#[.tmp 30,.tmp 32]) rfl ?_);at_builtin;refine Kd.S_append (Kd.slice 3 (Kd.int .i64)) (w0:=w) w.heap.size rfl (.tmp 30) (.tmp 32) 85 28 (.slice none 0 0) 24 rfl Tryz.underlying85 info28 rfl (by decide) (by omega) u5 aV bl [.slice (some ⟨go15,0,none⟩) aE.length ap] (fun _=>True) (fun k_=>some k_=(.slice (some ⟨go15,0,none⟩) aE.length ap:Value).ownBlock) rfl rfl ?aP (fun k_ hk_=>((Kd.R_mono (ok':=fun k_=>((fun _=>True)) k_∧some k_≠(u5:Value).ownBlock) (Kd.R_apart' (aH.out) (Kd.S_typed aW.out) (by decide)) (fun k_ hk=>⟨trivial,hk.2⟩))).1 k_ hk_.symm) ?aF ?aO ?aB ?aS ?aL ?_;(case aP=>exact Kd.M_row (Kd.R_mono (Kd.R_tight rfl (Kd.R_mono (ok':=fun k_=>((fun _=>True)) k_∧some k_≠(u5:Value).ownBlock) (Kd.R_apart' (aH.out) (Kd.S_typed aW.out) (by decide)) (fun k_ hk=>⟨trivial,hk.2⟩))) (fun _ h_=>h_)));(case aB=>exact (tb_ HB.out));(case aF=>exact (fun _ _=>trivial));(case aO=>exact (by refine qS_ ?_;exact Kd.S_mono aW.out (fun k_ hk=>⟨trivial,fun e_=>hk.2 e_⟩)));(case aS=>exact (below_size (tb_ HB.out)));(case aL=>have:=bE.out;omega);intro cU db ho hb hg hat;rw [←bG.out] at ho;replace HB:=A_ (hb);have bI:=A_ (ho);clear aW aH ho hb hg hat))
       go_roundg k2
       case measure=>have:=HJ2.out;have:=HK2.out;omega
       case rel=>exact ⟨(bF),(wrap64 (ao+1)),tx_,H',⟨by have:=HJ2.out;have:=HK2.out;omega⟩,⟨rS_ bI.out⟩,⟨(tb_ HB.out)⟩⟩
      ·
       obtain rfl:=Option.some.inj H;go_wp2;go_ret;exact ⟨_,tw_,by refine qS_ ?_;exact aW.out,(tb_ HB.out)⟩
def impl_UrnOk.l0:Nat→List Int→List Int→Int→Int→Option (Bool)
 |0,_,_,_,_=>none
 |k+1,x0,x5,x6,x7=>if x7<x6 then (if 0≤x7 then (if x7<(x5.length:Int) then (if (rd x5 x7)<0 then (some false) else (if (rd x5 x7)>40 then (some false) else (impl_UrnOk.l0 k x0 x5 x6 (wrap64 (x7+1))))) else (none)) else (none)) else ((impl_coloursOk.f (x0.length:Int)).bind fun bq=>(some bq))
def impl_UrnOk.f (k:Nat) (l0:List Int):Option (Bool):=impl_UrnOk.l0 k l0 l0 (l0.length:Int) 0
theorem impl_UrnOk.mono_l:∀k,(∀y0 y1 y2 y3,LeO (impl_UrnOk.l0 k y0 y1 y2 y3) (impl_UrnOk.l0 (k+1) y0 y1 y2 y3))
 |0=>fun _ _ _ _ r h=>by simp [impl_UrnOk.l0] at h
 |k+1=>by
  have ih0:=impl_UrnOk.mono_l k
  ·
   intro y0 y1 y2 y3
   unfold impl_UrnOk.l0
   repeat' (with_reducible first|exact ih0 _ _ _ _|exact mr_|exact mn_|refine mi_ ?_ ?_|refine mb_ ?_ (fun _=>?_))
theorem impl_UrnOk.mono:∀a0 k,LeO (impl_UrnOk.f k a0) (impl_UrnOk.f (k+1) a0):=by
 intro a0 k;have ih0:=impl_UrnOk.mono_l k;unfold impl_UrnOk.f;repeat' (with_reducible first|exact ih0 _ _ _ _|exact mr_|exact mn_|refine mi_ ?_ ?_|refine mb_ ?_ (fun _=>?_))
theorem impl_UrnOk.calls (k:Nat) (A0:Option Addr) (c0:Nat) (l0:List Int) (r:Bool) (w:World) (hr0:Kd.C (Kd.int .i64) w A0 l0.length l0) (hc0:l0.length≤c0) (h:impl_UrnOk.f k l0=some r) :
  Calls Tryz.prog 35 #[.slice A0 l0.length c0] w fun e w'=>e=.returned (.bool r)∧Drawn0 w w':=by
 have HR0:=A_ hr0;have HC0:=A_ hc0;clear hr0 hc0;have H:=h;clear h;unfold impl_UrnOk.f at H;have H':=A_ H;clear H;go_enter Tryz.func35,Tryz.ntmps35;go_wp2
 go_loopg [7] k (fun kq v7 w'=>∃(aq:Int),v7=.int .i64 aq∧Aside0 (impl_UrnOk.l0 kq l0 l0 (l0.length:Int) aq=some r)∧Aside0 (kq≤k)∧Drawn0 w w')
 case atStart=>exact ⟨(0),tx_,H',⟨Nat.le_refl _⟩,dz_⟩
 case round =>
  clear H';obtain ⟨aq,rfl,HA,HK1,⟨m1,rfl⟩⟩:=hrel
  cases gk with
  |zero=>exact absurd HA.out (by simp [impl_UrnOk.l0])
  |succ k1 =>
   have H:=HA.out;clear HA;simp only [impl_UrnOk.l0] at H;replace H:=it_ H;rcases H with ⟨bp,H⟩|⟨bp,H⟩
   ·
    replace H:=in_ H;obtain ⟨cV,H⟩:=H;replace H:=in_ H;obtain ⟨cW,H⟩:=H;replace H:=it_ H;rcases H with ⟨cy,H⟩|⟨cy,H⟩
    ·
     obtain rfl:=Option.some.inj H;obtain ⟨p643,q643,ad643,e643,a4⟩:=a2_ (Kd.at_int HR0.out aq);cases e643;go_wp2;go_ret;exact ⟨tx_,dz_⟩
    ·
     replace H:=ig_ H;rcases H with ⟨aQ,H⟩|⟨aQ,H⟩
     ·
      obtain rfl:=Option.some.inj H;obtain ⟨p643,q643,ad643,e643,a4⟩:=a2_ (Kd.at_int HR0.out aq);cases e643;go_wp2;go_ret;exact ⟨tx_,dz_⟩
     ·
      have H':=A_ H;clear H;obtain ⟨p643,q643,ad643,e643,a4⟩:=a2_ (Kd.at_int HR0.out aq);cases e643;go_wp2
      go_roundg k1
      case measure=>have:=HK1.out;omega
      case rel=>exact ⟨(wrap64 (aq+1)),tx_,H',⟨by have:=HK1.out;omega⟩,dz_⟩
   ·
    obtain ⟨bq,A7,H⟩:=bnd_ H;(try dsimp only at H);obtain rfl:=Option.some.inj H;go_wp2_with (first|((with_reducible refine gc_ 72 ?_);refine gl_ (some 20) Tryz.func72 #[.int .i64 (l0.length:Int)] ?_;(with_reducible refine (impl_coloursOk.calls (l0.length:Int) bq _ A7.out).mono ?_);rintro e w' ⟨rfl,⟨nd,rfl⟩⟩;refine ⟨_,rfl,?_⟩));go_ret;exact ⟨tx_,dz_⟩
end Go.Proofs.YtabknkhhlbanoaaGreatDoor.MFnReadJournal
