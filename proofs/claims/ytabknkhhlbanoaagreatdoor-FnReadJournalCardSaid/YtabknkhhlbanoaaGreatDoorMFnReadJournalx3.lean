/- Walks for FnReadJournal: a call returns what the plain function tells. Conditions: in each statement. -/
import Derived.Test.YtabknkhhlbanoaaGreatDoorMFnReadJournalx2
namespace Go.Proofs.YtabknkhhlbanoaaGreatDoor.MFnReadJournal
open Go.RowKit Go.Proofs.YtabknkhhlbanoaaGreatDoorW.PrintWords Go.Proofs.YtabknkhhlbanoaaGreatDoorW.PrintLast Go.Proofs.YtabknkhhlbanoaaGreatDoorW.PrintMore
set_option linter.unusedVariables false
set_option linter.unusedSimpArgs false
set_option maxHeartbeats 8000000
set_option maxRecDepth 100000
def spec_l20Rd_pick.j0:Nat→Int→Bool→List Int→Int→Option (Int×Int)
 |0,_,_,_,_=>none
 |k+1,x1,x24,ac,ad=>if x24=true then (some (0,ad)) else (if (wrap64 (ad - 1))<(ac.length:Int) then (if 0≤(wrap64 (ad - 1)) then (if x1=0 then (none) else (some (Int.tmod (wrap64 (rd ac (wrap64 (ad - 1)))) x1,ad))) else (none)) else (if (ac.length:Int)=0 then (none) else (if 0≤(Int.tmod (wrap64 (ad - 1)) (ac.length:Int)) then (if (Int.tmod (wrap64 (ad - 1)) (ac.length:Int))<(ac.length:Int) then (if 0≤(Int.tmod (wrap64 ((wrap64 ((wrap64 (ad - 1))*7))+3)) (ac.length:Int)) then (if (Int.tmod (wrap64 ((wrap64 ((wrap64 (ad - 1))*7))+3)) (ac.length:Int))<(ac.length:Int) then (if x1=0 then (none) else (some (Int.tmod (Go.bits .xor .i64 (wrap64 ((wrap64 ((wrap64 ((wrap64 ((wrap64 (rd ac (Int.tmod (wrap64 (ad - 1)) (ac.length:Int))))*131))+(wrap64 ((wrap64 (rd ac (Int.tmod (wrap64 ((wrap64 ((wrap64 (ad - 1))*7))+3)) (ac.length:Int))))*1117))))+(wrap64 ((wrap64 (ad - 1))*29))))+(wrap64 ((wrap64 (Int.tdiv (wrap64 (ad - 1)) (ac.length:Int)))*53)))) (wrap64 (Int.tdiv (wrap64 ((wrap64 ((wrap64 ((wrap64 ((wrap64 (rd ac (Int.tmod (wrap64 (ad - 1)) (ac.length:Int))))*131))+(wrap64 ((wrap64 (rd ac (Int.tmod (wrap64 ((wrap64 ((wrap64 (ad - 1))*7))+3)) (ac.length:Int))))*1117))))+(wrap64 ((wrap64 (ad - 1))*29))))+(wrap64 ((wrap64 (Int.tdiv (wrap64 (ad - 1)) (ac.length:Int)))*53)))) 64))) x1,ad))) else (none)) else (none)) else (none)) else (none))))
def spec_l20Rd_pick.f (k:Nat) (aa:List Int) (ab:Int) (a1:Int):Option (Int×Int):=if a1<1 then (spec_l20Rd_pick.j0 k a1 true aa (wrap64 (ab+1))) else (spec_l20Rd_pick.j0 k a1 ((aa.length:Int) == 0) aa (wrap64 (ab+1)))
theorem spec_l20Rd_pick.calls (k:Nat) (g:Nat) (aa:List Int) (ab:Int) (a1:Int) (r1:Int) (r2:Int) (w0 w:World) (hI:IsS69 w0 w g aa ab) (hB:Below w0.heap.size w0 w) (h:spec_l20Rd_pick.f k aa ab a1=some (r1,r2)) :
  Calls Tryz.prog 19 #[.pointer (some ⟨g,0,none⟩),.int .i64 a1] w fun e w'=>e=.returned (.int .i64 r1)∧IsS69 w0 w' g aa r2∧Below w0.heap.size w0 w'∧KeepBut w w' g none:=by
 have HI0:=A_ hI;have HK:=A_ (KeepBut.refl w g none);have HL:=A_ hB.size;have HLg:=A_ hI.lt;clear hI;have HW0:=A_ hB.size;have HB:=A_ hB;clear hB;have H:=h;clear h;unfold spec_l20Rd_pick.f at H;have HC3:=A_ H;clear H;obtain ⟨ASz4_0,cSz4_0,HGz4,hgz4,HSz4_0⟩:=HI0.out;have aq:=cellS69_0 HGz4;have ar:=cellS69_1 HGz4;have au:=blk_frozen HGz4 1;clear HGz4 hgz4;go_enter Tryz.func19,Tryz.ntmps19
 go_upto_region 2 with (fail)
 repeat (go_quiet (fail);go_upto_region 2 with (fail))
 go_cut [24] (fun aW wc=>∃(kq:Nat) (ag:Bool),aW=.bool ag∧Aside0 (spec_l20Rd_pick.j0 kq a1 ag aa (wrap64 (ab+1))=some (r1,r2))∧Aside0 (kq≤k)∧Aside0 (IsS69 w0 wc g aa (wrap64 (ab+1)))∧Aside0 (KeepBut w wc g none)∧Aside0 (Below w0.heap.size w0 wc))
 case first =>
  have H:=HC3.out;clear HC3;replace H:=it_ H;rcases H with ⟨ak,H⟩|⟨ak,H⟩
  ·
   (first|rw [ak]|(simp only [i64_w,i32_w];rw [ak])|skip);have H':=A_ H;clear H;go_wp2;repeat (go_quiet (fail);try go_wp2)
   go_meet
   case rel=>exact ⟨_,(true),tx_,H',⟨by first|omega|exact Nat.le_refl _⟩,⟨ti69_ HI0.out⟩,⟨(tc_ HK.out)⟩,⟨tu69_ HB.out⟩⟩
  ·
   (first|rw [ak]|(simp only [i64_w,i32_w];rw [ak])|skip);have H':=A_ H;clear H;obtain ⟨ASz6_0,cSz6_0,HGz6,hgz6,HSz6_0⟩:=HI0.out;have av:=cellS69_0 HGz6;have aw:=cellS69_1 HGz6;have ax:=blk_frozen HGz6 1;clear HGz6 hgz6;go_wp2;repeat (go_quiet (fail);try go_wp2)
   go_meet
   case rel=>exact ⟨_,(((aa.length:Int) == 0)),tx_,H',⟨by first|omega|exact Nat.le_refl _⟩,⟨ti69_ HI0.out⟩,⟨(tc_ HK.out)⟩,⟨tu69_ HB.out⟩⟩
 case rest =>
  clear HC3;(try clear aq);(try clear ar);(try clear au);obtain ⟨kq,ag,rfl,HA,HJ2,HI0,HK,HB⟩:=hcut
  cases kq with
  |zero=>exact absurd HA.out (by simp [spec_l20Rd_pick.j0])
  |succ kj2 =>
   have H:=HA.out;clear HA;simp only [spec_l20Rd_pick.j0] at H;by_cases c7:ag=true
   ·
    subst c7;replace H:=bt_ H
    obtain ⟨rfl,rfl⟩:=sj2_ H;go_wp2;repeat (go_quiet (fail);try go_wp2)
    go_ret;exact ⟨tw_,ti69_ HI0.out,tu69_ HB.out,(tc_ HK.out)⟩
   ·
    replace c7:=Bool.eq_false_iff.mpr c7;subst c7;replace H:=bf_ H
    by_cases c8:(wrap64 ((wrap64 (ab+1)) - 1))<(aa.length:Int)
    ·
     rw [if_pos c8] at H;have ay:decide ((wrap64 ((wrap64 (ab+1)) - 1))<(aa.length:Int))=true:=decide_eq_true c8;have ay_:=ay;(try simp only [wwl_,wwr_] at ay_);clear c8;obtain ⟨ao,al⟩:∃j_:Int,(wrap64 ((wrap64 (ab+1)) - 1))=j_:=⟨_,rfl⟩
     replace H:(if 0≤(ao) then (if a1=0 then (none) else (some (Int.tmod (wrap64 (rd aa (ao))) a1,(wrap64 (ab+1))))) else (none))=some (r1,r2):=by first|(rw [al] at H;exact H)|(simp only [al] at H ⊢;exact H)
     (try rw [al] at ay);have aH:(IntKind.i64.wrap ((wrap64 (ab+1)) - 1))=ao:=(i64_w _).trans al;replace H:=in_ H;obtain ⟨aI,H⟩:=H;by_cases c11:a1=0
     ·
      rw [if_pos c11] at H;cases H
     ·
      rw [if_neg c11] at H;have aJ:(a1 == 0)=false:=beq_eq_false_iff_ne.mpr c11;have aK:(a1 != 0)=true:=bne_iff_ne.mpr c11;obtain ⟨rfl,rfl⟩:=sj2_ H;obtain ⟨ASz12_0,cSz12_0,HGz12,hgz12,HSz12_0⟩:=HI0.out;have aA:=cellS69_0 HGz12;have aB:=cellS69_1 HGz12;have aC:=blk_frozen HGz12 1;clear HGz12 hgz12;obtain ⟨p124,q124,ad124,e124,ah⟩:=a2_ (Kd.at_int HSz12_0 (ao));cases e124;replace ah:=pw_cell_below HB.out ah;go_wp2;repeat (go_quiet (fail);try go_wp2)
      go_ret;exact ⟨by first|rfl|(simp [errW_none,errW_some,Option.map_none,Option.map_some]<;>rfl)|(simp only [←al];first|rfl|(simp [errW_none,errW_some,Option.map_none,Option.map_some]<;>rfl))|(simp [*,errW_none,errW_some]<;>rfl),ti69_ HI0.out,tu69_ HB.out,(tc_ HK.out)⟩
    ·
     rw [if_neg c8] at H;have ay:decide ((wrap64 ((wrap64 (ab+1)) - 1))<(aa.length:Int))=false:=decide_eq_false c8;have ay_:=ay;(try simp only [wwl_,wwr_] at ay_);clear c8;by_cases c13:(aa.length:Int)=0
     ·
      rw [if_pos c13] at H;cases H
     ·
      rw [if_neg c13] at H;have aL:((aa.length:Int) == 0)=false:=beq_eq_false_iff_ne.mpr c13;have aM:((aa.length:Int) != 0)=true:=bne_iff_ne.mpr c13;have aN:¬(aa=[]):=fun h_=>c13 (by rw [h_];rfl);obtain ⟨ae,am⟩:∃j_:Int,(Int.tmod (wrap64 ((wrap64 (ab+1)) - 1)) (aa.length:Int))=j_:=⟨_,rfl⟩
      replace H:(if 0≤(ae) then (if (ae)<(aa.length:Int) then (if 0≤(Int.tmod (wrap64 ((wrap64 ((wrap64 ((wrap64 (ab+1)) - 1))*7))+3)) (aa.length:Int)) then (if (Int.tmod (wrap64 ((wrap64 ((wrap64 ((wrap64 (ab+1)) - 1))*7))+3)) (aa.length:Int))<(aa.length:Int) then (if a1=0 then (none) else (some (Int.tmod (Go.bits .xor .i64 (wrap64 ((wrap64 ((wrap64 ((wrap64 ((wrap64 (rd aa (ae)))*131))+(wrap64 ((wrap64 (rd aa (Int.tmod (wrap64 ((wrap64 ((wrap64 ((wrap64 (ab+1)) - 1))*7))+3)) (aa.length:Int))))*1117))))+(wrap64 ((wrap64 ((wrap64 (ab+1)) - 1))*29))))+(wrap64 ((wrap64 (Int.tdiv (wrap64 ((wrap64 (ab+1)) - 1)) (aa.length:Int)))*53)))) (wrap64 (Int.tdiv (wrap64 ((wrap64 ((wrap64 ((wrap64 ((wrap64 (rd aa (ae)))*131))+(wrap64 ((wrap64 (rd aa (Int.tmod (wrap64 ((wrap64 ((wrap64 ((wrap64 (ab+1)) - 1))*7))+3)) (aa.length:Int))))*1117))))+(wrap64 ((wrap64 ((wrap64 (ab+1)) - 1))*29))))+(wrap64 ((wrap64 (Int.tdiv (wrap64 ((wrap64 (ab+1)) - 1)) (aa.length:Int)))*53)))) 64))) a1,(wrap64 (ab+1))))) else (none)) else (none)) else (none)) else (none))=some (r1,r2):=by first|(rw [am] at H;exact H)|(simp only [am] at H ⊢;exact H)
      replace H:=in_ H;obtain ⟨aO,H⟩:=H;replace H:=in_ H;obtain ⟨aP,H⟩:=H;obtain ⟨af,an⟩:∃j_:Int,(Int.tmod (wrap64 ((wrap64 ((wrap64 ((wrap64 (ab+1)) - 1))*7))+3)) (aa.length:Int))=j_:=⟨_,rfl⟩
      replace H:(if 0≤(af) then (if (af)<(aa.length:Int) then (if a1=0 then (none) else (some (Int.tmod (Go.bits .xor .i64 (wrap64 ((wrap64 ((wrap64 ((wrap64 ((wrap64 (rd aa (ae)))*131))+(wrap64 ((wrap64 (rd aa (af)))*1117))))+(wrap64 ((wrap64 ((wrap64 (ab+1)) - 1))*29))))+(wrap64 ((wrap64 (Int.tdiv (wrap64 ((wrap64 (ab+1)) - 1)) (aa.length:Int)))*53)))) (wrap64 (Int.tdiv (wrap64 ((wrap64 ((wrap64 ((wrap64 ((wrap64 (rd aa (ae)))*131))+(wrap64 ((wrap64 (rd aa (af)))*1117))))+(wrap64 ((wrap64 ((wrap64 (ab+1)) - 1))*29))))+(wrap64 ((wrap64 (Int.tdiv (wrap64 ((wrap64 (ab+1)) - 1)) (aa.length:Int)))*53)))) 64))) a1,(wrap64 (ab+1))))) else (none)) else (none))=some (r1,r2):=by first|(rw [an] at H;exact H)|(simp only [an] at H ⊢;exact H)
      replace H:=in_ H;obtain ⟨aQ,H⟩:=H;replace H:=in_ H;obtain ⟨aR,H⟩:=H;by_cases c20:a1=0
      ·
       rw [if_pos c20] at H;cases H
      ·
       rw [if_neg c20] at H;have aU:(a1 == 0)=false:=beq_eq_false_iff_ne.mpr c20;have aV:(a1 != 0)=true:=bne_iff_ne.mpr c20;obtain ⟨rfl,rfl⟩:=sj2_ H;obtain ⟨ASz21_0,cSz21_0,HGz21,hgz21,HSz21_0⟩:=HI0.out;have aD:=cellS69_0 HGz21;have aE:=cellS69_1 HGz21;have aF:=blk_frozen HGz21 1;clear HGz21 hgz21;obtain ⟨p125,q125,ad125,e125,ai⟩:=a2_ (Kd.at_int HSz21_0 (ae));cases e125;replace ai:=pw_cell_below HB.out ai;have p126:0≤((af):Int):=od_;have q126:(af)<(aa.length:Int):=od_;obtain ⟨ad126,e126,aj⟩:=Kd.at_int HSz21_0 (af) p126 q126;obtain rfl:ad125=ad126:=(by injection e126)
       replace aj:=pw_cell_below HB.out aj;replace p126:=eq_true p126;replace q126:=eq_true q126;go_wp2;repeat (go_quiet (fail);try go_wp2)
       go_ret;exact ⟨by first|rfl|(simp [errW_none,errW_some,Option.map_none,Option.map_some]<;>rfl)|(simp only [←am,←an];first|rfl|(simp [errW_none,errW_some,Option.map_none,Option.map_some]<;>rfl))|(simp [*,errW_none,errW_some]<;>rfl),ti69_ HI0.out,tu69_ HB.out,(tc_ HK.out)⟩
def spec_l20Rd_odd.f (k:Nat) (aa:List Int) (ab:Int) (a1:Int):Option (Bool×Int):=if a1>0 then ((spec_l20Rd_pick.f k aa ab a1).bind fun ap=>(some ((ap.1 == (wrap64 (a1 - 1))),ap.2))) else (some (false,ab))
theorem spec_l20Rd_odd.z0 {P_:Prop} (h_:P_:=by go_wp2_with (first|((with_reducible refine gc_ 19 ?_);refine gate_guard (by rfl) ?_;dsimp only;refine ca_ (some 10) Tryz.func19 _ (spec_l20Rd_pick.calls k g _ _ _ _ _ w0 _ (sI_ (fun W_=>IsS69 w0 W_ g aa ab) st) (bw_ HBW.out HGE.out st) A_10.out) ?_;rintro e w_ ⟨rfl,hI,hb0,hk⟩;refine ⟨_,rfl,?_⟩;replace st:=st.sk0 (I:=(fun W_=>IsS69 w0 W_ g aa ab)) (I':=(fun W_=>IsS69 w0 W_ g aa az)) hk (bw_ HBW.out HGE.out st) hb0 hI;clear cl hb0 hk hI;have cl:=cl_ st));first|(go_ret;exact ⟨tw_,sI_ (fun W_=>IsS69 w0 W_ g aa az) st,bw_ HBW.out HGE.out st,kw_ st⟩)|(go_ret;exact ⟨tw_,sI_ (fun W_=>IsS69 w0 W_ g aa ab) st,bw_ HBW.out HGE.out st,kw_ st⟩)):P_:=h_
theorem spec_l20Rd_odd.calls (k:Nat) (g:Nat) (aa:List Int) (ab:Int) (a1:Int) (r1:Bool) (r2:Int) (w0 w:World) (hI:IsS69 w0 w g aa ab) (hB:Below w0.heap.size w0 w) (h:spec_l20Rd_odd.f k aa ab a1=some (r1,r2)) :
  Calls Tryz.prog 25 #[.pointer (some ⟨g,0,none⟩),.int .i64 a1] w fun e w'=>e=.returned (.bool r1)∧IsS69 w0 w' g aa r2∧Below w0.heap.size w0 w'∧KeepBut w w' g none:=by
 have HBW:=A_ hB;have HGE:=A_ (IsS69.ge hI);have st:=SX.nilS (g:=g) (I:=(fun W_=>IsS69 w0 W_ g aa ab)) hI;clear hB hI;have s0:=st;have cl:=cl_ st;have H:=h;clear h;unfold spec_l20Rd_odd.f at H;go_enter Tryz.func25,Tryz.ntmps25;replace H:=ig_ H;rcases H with ⟨aG,H⟩|⟨aG,H⟩
 ·
  obtain ⟨⟨aX,az⟩,A_10,H⟩:=bnd_ H;(try dsimp only at H);obtain ⟨rfl,rfl⟩:=sj2_ H;exact spec_l20Rd_odd.z0
 ·
  obtain ⟨rfl,rfl⟩:=sj2_ H;exact spec_l20Rd_odd.z0
end Go.Proofs.YtabknkhhlbanoaaGreatDoor.MFnReadJournal
