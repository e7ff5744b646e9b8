/- For the law FnReadJournal: for every code the drawn journal is read by the program as by the reference; of any beginning of it the first ones of its deeds are read, and no others; its deeds have what was read as their text; and said line by line to a drawn desk they lead to the desk to which a run leads. The conditions: the bytes or numbers that come in are of their kinds, as the statement says. -/
import Derived.Test.YtabknkhhlbanoaaGreatDoorMFnReadJournalx20
import Derived.Test.YtabknkhhlbanoaaGreatDoorBase
import Derived.Test.YtabknkhhlbanoaaGreatDoorMath
import Derived.Test.YtabknkhhlbanoaaGreatDoorPlace
import Derived.Test.YtabknkhhlbanoaaGreatDoorDeed
import Derived.Test.YtabknkhhlbanoaaGreatDoorText
namespace Go.Proofs.YtabknkhhlbanoaaGreatDoor.Pure
open Go.RowKit Go.Proofs.YtabknkhhlbanoaaGreatDoor.MFnReadJournal Go.Proofs.YtabknkhhlbanoaaGreatDoorW.PrintWords Go.Proofs.YtabknkhhlbanoaaGreatDoorW.PrintLast Go.Proofs.YtabknkhhlbanoaaGreatDoor.Base
namespace FnReadJournal_parts
theorem xor_nn {x y:Int} (hx:0≤x) (hx':x<9223372036854775808) (hy:0≤y) (hy':y<9223372036854775808):0≤Go.bits .xor .i64 x y:=by
  obtain ⟨a,rfl⟩:=Int.eq_ofNat_of_zero_le hx
  obtain ⟨b,rfl⟩:=Int.eq_ofNat_of_zero_le hy
  have ha:a<2 ^ 63:=by omega
  have hb:b<2 ^ 63:=by omega
  have hc:a ^^^ b<2 ^ 63:=Nat.xor_lt_two_pow ha hb
  have h1:(BitVec.ofInt 64 (a:Int)).toNat=a:=by
    rw [BitVec.ofInt_natCast,BitVec.toNat_ofNat];exact Nat.mod_eq_of_lt (by omega)
  have h2:(BitVec.ofInt 64 (b:Int)).toNat=b:=by
    rw [BitVec.ofInt_natCast,BitVec.toNat_ofNat];exact Nat.mod_eq_of_lt (by omega)
  show 0≤IntKind.i64.wrap ((BitVec.ofInt 64 (a:Int) ^^^ BitVec.ofInt 64 (b:Int)).toNat:Int)
  rw [BitVec.toNat_xor,h1,h2,IntKind.wrap_i64]
  omega
def BytesOk (b:List Int):Prop:=(∀x ∈ b,0≤x∧x≤255)∧b.length≤2000
theorem pick_ev {b:List Int} (hb:BytesOk b) (p n:Int) (h0:0≤p) (hp:p≤1000000000000) (hn:n≤1000000000000) :
    ∃r,Ev (fun k=>spec_l20Rd_pick.f k b p n) (r,p+1)∧0≤r∧(1≤n→r<n)∧(n<1→r=0):=by
  obtain ⟨hb,hl⟩:=hb
  by_cases hn1:n<1
  · refine ⟨0,?_,by omega,by omega,fun _=>rfl⟩
    simp only [spec_l20Rd_pick.f]
    refine ev_pos hn1 (ev_suc ?_)
    simp (disch:=omega) only [spec_l20Rd_pick.j0,if_true,w64]
    exact Ev.now _
  · have key:∀(x:Int),0≤x→0≤Int.tmod x n∧(1≤n→Int.tmod x n<n)∧(n<1→Int.tmod x n=0):=by
      intro x hx
      rw [Int.tmod_eq_emod_of_nonneg hx]
      have h1:=Int.emod_nonneg x (b:=n) (by omega)
      have h2:=Int.emod_lt_of_pos x (b:=n) (by omega)
      exact ⟨h1,fun _=>h2,fun h=>absurd h hn1⟩
    by_cases hl0:b.length=0
    · refine ⟨0,?_,by omega,by omega,fun _=>rfl⟩
      simp only [spec_l20Rd_pick.f]
      refine ev_neg hn1 (ev_suc ?_)
      have e:((b.length:Int) == 0)=true:=by simp [hl0]
      simp (disch:=omega) only [spec_l20Rd_pick.j0,e,if_true,w64]
      exact Ev.now _
    · have e:((b.length:Int) == 0)=false:=by rw [beq_eq_false_iff_ne];omega
      by_cases hlt:p<(b.length:Int)
      · have hm:=hb _ (rd_mem h0 hlt)
        obtain ⟨k1,k2,k3⟩:=key (rd b p) hm.1
        refine ⟨Int.tmod (rd b p) n,?_,k1,k2,k3⟩
        simp only [spec_l20Rd_pick.f]
        refine ev_neg hn1 (ev_suc ?_)
        have e1:wrap64 (wrap64 (p+1) - 1)=p:=by rw [w64 (n:=p+1) (by omega) (by omega),w64 (by omega) (by omega)];omega
        have e2:wrap64 (rd b p)=rd b p:=w64 (by omega) (by omega)
        simp only [spec_l20Rd_pick.j0,e,e1,e2,Bool.false_eq_true,if_false]
        refine ev_pos hlt (ev_pos h0 (ev_neg (by omega) (ev_now ?_)))
        rw [w64 (by omega) (by omega)]
      · have hL:0<(b.length:Int):=by omega
        have m1a:=Int.emod_nonneg p (b:=(b.length:Int)) (by omega)
        have m1b:=Int.emod_lt_of_pos p (b:=(b.length:Int)) hL
        have m2a:=Int.emod_nonneg (p*7+3) (b:=(b.length:Int)) (by omega)
        have m2b:=Int.emod_lt_of_pos (p*7+3) (b:=(b.length:Int)) hL
        have r1:=hb _ (rd_mem m1a m1b)
        have r2:=hb _ (rd_mem m2a m2b)
        have d1:0≤p / (b.length:Int):=Int.ediv_nonneg h0 (by omega)
        have d2:p / (b.length:Int)≤p:=Int.ediv_le_self _ h0
        have e1:wrap64 (wrap64 (p+1) - 1)=p:=by rw [w64 (n:=p+1) (by omega) (by omega),w64 (by omega) (by omega)];omega
        have e1':wrap64 (p+1 - 1)=p:=by rw [w64 (by omega) (by omega)];omega
        have e3:Int.tmod p (b.length:Int)=p % (b.length:Int):=Int.tmod_eq_emod_of_nonneg h0
        have e4:Int.tmod (p*7+3) (b.length:Int)=(p*7+3) % (b.length:Int):=Int.tmod_eq_emod_of_nonneg (by omega)
        have e5:Int.tdiv p (b.length:Int)=p / (b.length:Int):=Int.tdiv_eq_ediv_of_nonneg h0
        generalize hu:rd b (p % (b.length:Int))=u at r1
        generalize hv:rd b ((p*7+3) % (b.length:Int))=v at r2
        generalize hd:p / (b.length:Int)=d at d1 d2
        have hx0:0≤u*131+v*1117+p*29+d*53:=by omega
        have e6:Int.tdiv (u*131+v*1117+p*29+d*53) 64=(u*131+v*1117+p*29+d*53) / 64:=Int.tdiv_eq_ediv_of_nonneg hx0
        obtain ⟨k1,k2,k3⟩:=key (Go.bits .xor .i64 (u*131+v*1117+p*29+d*53) ((u*131+v*1117+p*29+d*53) / 64)) (xor_nn (by omega) (by omega) (by omega) (by omega))
        refine ⟨_,?_,k1,k2,k3⟩
        simp only [spec_l20Rd_pick.f]
        refine ev_neg hn1 (ev_suc ?_)
        have f1:wrap64 (p*7)=p*7:=w64 (by omega) (by omega)
        have f2:wrap64 (p*7+3)=p*7+3:=w64 (by omega) (by omega)
        have f3:wrap64 u=u:=w64 (by omega) (by omega)
        have f4:wrap64 v=v:=w64 (by omega) (by omega)
        have f5:wrap64 (u*131)=u*131:=w64 (by omega) (by omega)
        have f6:wrap64 (v*1117)=v*1117:=w64 (by omega) (by omega)
        have f7:wrap64 (u*131+v*1117)=u*131+v*1117:=w64 (by omega) (by omega)
        have f8:wrap64 (p*29)=p*29:=w64 (by omega) (by omega)
        have f9:wrap64 (u*131+v*1117+p*29)=u*131+v*1117+p*29:=w64 (by omega) (by omega)
        have f10:wrap64 d=d:=w64 (by omega) (by omega)
        have f11:wrap64 (d*53)=d*53:=w64 (by omega) (by omega)
        have f12:wrap64 (u*131+v*1117+p*29+d*53)=u*131+v*1117+p*29+d*53:=w64 (by omega) (by omega)
        have f13:wrap64 ((u*131+v*1117+p*29+d*53) / 64)=(u*131+v*1117+p*29+d*53) / 64:=w64 (by omega) (by omega)
        have f14:wrap64 (p+1)=p+1:=w64 (by omega) (by omega)
        simp only [spec_l20Rd_pick.j0,e,e1,f14,e1',f1,f2,e3,e4,e5,hu,hv,hd,f3,f4,f5,f6,f7,f8,f9,f10,f11,f12,e6,f13,Bool.false_eq_true,if_false]
        exact ev_neg hlt (ev_neg (by omega) (ev_pos m1a (ev_pos m1b (ev_pos m2a (ev_pos m2b (ev_neg (by omega) (Ev.now _)))))))
theorem open_ev {l:List Int} (hl:∀x ∈ l,(Lit.int .u8 x).wf=true):∃b,spec_l20Open.f l=some (b,0)∧BytesOk b:=by
  have hw:∀x ∈ l,0≤x∧x≤255:=fun x hx=>by
    have:=hl x hx
    simp [Lit.wf,IntKind.min,IntKind.max,IntKind.bits,IntKind.signed] at this
    omega
  by_cases h:(l.length:Int)>2000
  · exact ⟨l.take 2000,by simp (disch:=omega) only [spec_l20Open.f,if_pos],fun x hx=>hw x (List.mem_of_mem_take hx),by rw [List.length_take];omega⟩
  · exact ⟨l,by simp (disch:=omega) only [spec_l20Open.f,if_neg],hw,by omega⟩
theorem odd_ev {b:List Int} (hb:BytesOk b) (p n:Int) (h0:0≤p) (hp:p≤1000000000000) (hn:n≤1000000000000) (hn':1≤n) :
    ∃r,Ev (fun k=>spec_l20Rd_odd.f k b p n) (r,p+1):=by
  obtain ⟨r,hr,h1,h2,h3⟩:=pick_ev hb p n h0 hp hn
  refine ⟨r == wrap64 (n - 1),?_⟩
  simp only [spec_l20Rd_odd.f]
  exact ev_pos (by omega) (ev_bind hr (Ev.now _))
theorem drawDeedj_ev {b:List Int} (hb:BytesOk b) (p:Int) (h0:0≤p) (hp:p≤100000000) (x y z:Int):∃d,Ev (fun k=>spec_l20Deed.j0 k b p x y z) d∧p≤d.2.2.2∧d.2.2.2≤p+3:=by
  obtain ⟨r,hr⟩:=odd_ev hb p 40 h0 (by omega) (by omega) (by omega)
  cases r with
  |false =>
    refine ⟨(x,y,z,p+1),ev_suc ?_,by simp only;omega,by simp only;omega⟩
    simp only [spec_l20Deed.j0]
    exact ev_bind hr (ev_neg (by simp) (Ev.now _))
  |true =>
    obtain ⟨v,hv,v0,v1,_⟩:=pick_ev hb (p+1) 2 (by omega) (by omega) (by omega)
    by_cases hz:v=0
    · obtain ⟨q,hq,q0,q1,_⟩:=pick_ev hb (p+1+1) 2 (by omega) (by omega) (by omega)
      refine ⟨(x,rd [-100,100] q,z,p+1+1+1),ev_suc ?_,by simp only;omega,by simp only;omega⟩
      simp only [spec_l20Deed.j0]
      exact ev_bind hr (ev_pos rfl (ev_bind hv (ev_pos hz (ev_bind (Ev.now _) (ev_bind hq (ev_pos q0 (ev_pos (by have:=q1 (by omega);simp;omega) (Ev.now _))))))))
    · refine ⟨(x,y,99,p+1+1),ev_suc ?_,by simp only;omega,by simp only;omega⟩
      simp only [spec_l20Deed.j0]
      exact ev_bind hr (ev_pos rfl (ev_bind hv (ev_neg hz (Ev.now _))))
theorem drawDeed_ev {b:List Int} (hb:BytesOk b) (p:Int) (h0:0≤p) (hp:p≤10000000) (u:List Int) (s:Int) (w:List Int) (hu:u.length≤3):∃d,Ev (fun k=>spec_l20Deed.f k b p u s w) d∧p≤d.2.2.2∧d.2.2.2≤p+7:=by
  obtain ⟨i,hi,i0,i1,_⟩:=pick_ev hb p 8 h0 (by omega) (by omega)
  obtain ⟨j,hj,j0,j1,_⟩:=pick_ev hb (p+1) 60 (by omega) (by omega) (by omega)
  have hm:mx (u.length:Int) 1≤3:=by unfold mx;split<;>omega
  obtain ⟨c,hc,_⟩:=pick_ev hb (p+1+1) (mx (u.length:Int) 1) (by omega) (by omega) (by omega)
  obtain ⟨e,he,_⟩:=pick_ev hb (p+1+1+1) 7 (by omega) (by omega) (by omega)
  obtain ⟨f,hf,_⟩:=pick_ev hb (p+1+1) 5 (by omega) (by omega) (by omega)
  have hi8:=i1 (by omega)
  simp only [spec_l20Deed.f]
  by_cases k0:wrap64 ((rd [0,1,2,2,2,2,3,4] i)+(wrap64 ((wrap64 (Int.tdiv j 59))*5)))=0
  · obtain ⟨d,hd,q1,q2⟩:=drawDeedj_ev hb (p+1+1+1+1) (by omega) (by omega) (wrap64 ((rd [0,1,2,2,2,2,3,4] i)+(wrap64 ((wrap64 (Int.tdiv j 59))*5)))) c (wrap64 (e - 3))
    exact ⟨d,ev_bind (Ev.now _) (ev_bind hi (ev_pos i0 (ev_pos (by simp;omega) (ev_bind hj (ev_pos k0 (ev_bind hc (ev_bind he hd))))))),by omega,by omega⟩
  by_cases k1:wrap64 ((rd [0,1,2,2,2,2,3,4] i)+(wrap64 ((wrap64 (Int.tdiv j 59))*5)))=1
  · obtain ⟨d,hd,q1,q2⟩:=drawDeedj_ev hb (p+1+1+1) (by omega) (by omega) (wrap64 ((rd [0,1,2,2,2,2,3,4] i)+(wrap64 ((wrap64 (Int.tdiv j 59))*5)))) (wrap64 (f - 1)) 0
    exact ⟨d,ev_bind (Ev.now _) (ev_bind hi (ev_pos i0 (ev_pos (by simp;omega) (ev_bind hj (ev_neg k0 (ev_pos k1 (ev_bind hf hd))))))),by omega,by omega⟩
  by_cases k2:wrap64 ((rd [0,1,2,2,2,2,3,4] i)+(wrap64 ((wrap64 (Int.tdiv j 59))*5)))=2
  · obtain ⟨d,hd,q1,q2⟩:=drawDeedj_ev hb (p+1+1+1) (by omega) (by omega) (wrap64 ((rd [0,1,2,2,2,2,3,4] i)+(wrap64 ((wrap64 (Int.tdiv j 59))*5)))) c 0
    exact ⟨d,ev_bind (Ev.now _) (ev_bind hi (ev_pos i0 (ev_pos (by simp;omega) (ev_bind hj (ev_neg k0 (ev_neg k1 (ev_pos k2 (ev_bind hc hd)))))))),by omega,by omega⟩
  · obtain ⟨d,hd,q1,q2⟩:=drawDeedj_ev hb (p+1+1) (by omega) (by omega) (wrap64 ((rd [0,1,2,2,2,2,3,4] i)+(wrap64 ((wrap64 (Int.tdiv j 59))*5)))) 0 0
    exact ⟨d,ev_bind (Ev.now _) (ev_bind hi (ev_pos i0 (ev_pos (by simp;omega) (ev_bind hj (ev_neg k0 (ev_neg k1 (ev_neg k2 hd))))))),by omega,by omega⟩
theorem drawDeeds_loop {b:List Int} (hb:BytesOk b) (u:List Int) (s:Int) (w:List Int) (hu:u.length≤3):∀(d:Nat) (acc:List S41) (p:Int),acc.length+d≤100→0≤p→p+7*(d:Int)≤1000000 →
    ∃ds q,Ev (fun k=>spec_l20Deeds.l0 k acc (d:Int) b p u s w) (ds,q)∧ds.length=acc.length+d∧p≤q∧q≤p+7*d:=by
  intro d
  induction d with
  |zero =>
    intro acc p _ h0 hp
    refine ⟨acc,p,ev_suc ?_,by simp,by omega,by omega⟩
    simp only [spec_l20Deeds.l0]
    exact ev_neg (by omega) (Ev.now _)
  |succ d ih =>
    intro acc p hl h0 hp
    obtain ⟨⟨k,x,y,q⟩,he,q1,q2⟩:=drawDeed_ev hb p h0 (by omega) u s w hu
    simp only at q1 q2
    obtain ⟨ds,q',hd,h1,h2,h3⟩:=ih (acc++[⟨k,x,y⟩]) q (by simp;omega) (by omega) (by omega)
    refine ⟨ds,q',ev_suc ?_,by rw [h1];simp;omega,by omega,by omega⟩
    simp only [spec_l20Deeds.l0]
    refine ev_pos (by omega) (ev_bind he (ev_pos (by omega) ?_))
    rw [w64 (by omega) (by omega),show ((d+1:Nat):Int) - 1=(d:Int) from by omega]
    exact hd
theorem drawDeeds_ev {b:List Int} (hb:BytesOk b) (u:List Int) (s:Int) (w:List Int) (hu:u.length≤3) (p:Int) (h0:0≤p) (hp:p≤100000) :
    ∃ds q,Ev (fun k=>spec_l20Deeds.f k b p u s w) (ds,q)∧ds.length≤5∧p≤q∧q≤p+50:=by
  obtain ⟨r,hr,r0,r1,_⟩:=pick_ev hb p 6 h0 (by omega) (by omega)
  have hr6:=r1 (by omega)
  obtain ⟨m,rfl⟩:=Int.eq_ofNat_of_zero_le r0
  obtain ⟨ds,q,hd,h1,h2,h3⟩:=drawDeeds_loop hb u s w hu m [] (p+1) (by simp;omega) (by omega) (by omega)
  refine ⟨ds,q,?_,by rw [h1];simp;omega,by omega,by omega⟩
  simp only [spec_l20Deeds.f]
  exact ev_bind hr hd
theorem odd0 (b:List Int) (p:Int):∀k,spec_l20Rd_odd.f k b p 0=some (false,p):=fun k=>by simp [spec_l20Rd_odd.f]
theorem odd0_ev (b:List Int) (p:Int):Ev (fun k=>spec_l20Rd_odd.f k b p 0) (false,p):=Ev.congr (odd0 b p) (Ev.now _)
theorem l1In_eq (a b c:Int):spec_l1In.f a b c=some (decide (b≤a) && decide (a≤c)):=by
  unfold spec_l1In.f
  by_cases h:a≥b
  · rw [if_pos h];simp;omega
  · rw [if_neg h];simp;omega
theorem urnB_no' {u:List Int} {x:Int} (hx:x ∈ u) (h:¬(0≤x∧x≤40)):urnB u=false:=by
  cases e:urnB u with
  |false=>rfl
  |true=>exact absurd (((urnB_iff u).1 e).1 x hx) h
theorem specUrn_loop (l:List Int) (hl:(l.length:Int)≤1000000000000):∀(suf pre:List Int),l=pre++suf→(∀x ∈ pre,0≤x∧x≤40) →
    Ev (fun k=>spec_UrnOk.l0 k l (pre.length:Int)) (urnB l):=by
  intro suf
  induction suf with
  |nil =>
    intro pre h hr
    have e:l.length=pre.length:=by rw [h];simp
    refine ev_suc ?_
    simp (disch:=omega) only [spec_UrnOk.l0,if_neg,l1In_eq]
    refine ev_now ?_
    rw [List.append_nil] at h
    subst h
    rw [Bool.eq_iff_iff,urnB_iff]
    simp only [Bool.and_eq_true,decide_eq_true_eq]
    exact ⟨fun h=>⟨hr,by omega,by omega⟩,fun h=>⟨by omega,by omega⟩⟩
  |cons x t ih =>
    intro pre h hr
    have e:l.length=pre.length+(t.length+1):=by rw [h];simp
    have hx:rd l (pre.length:Int)=x:=by rw [h];exact rd_at _ _ _
    have hxl:x ∈ l:=by rw [h];simp
    refine ev_suc ?_
    simp (disch:=omega) only [spec_UrnOk.l0,hx,if_pos,l1In_eq,Option.bind_some]
    by_cases h1:0≤x∧x≤40
    · refine ev_pos (by simp [h1]) ?_
      rw [w64 (by omega) (by omega),len_at pre x]
      refine ih (pre++[x]) (by rw [h];simp) ?_
      intro y hy
      rcases List.mem_append.1 hy with hy|hy
      · exact hr y hy
      · rw [List.mem_singleton] at hy;subst hy;exact h1
    · exact ev_neg (by simp only [Bool.and_eq_true,decide_eq_true_eq];exact h1) (ev_now (urnB_no' hxl h1).symm)
theorem specUrnOk_ev (l:List Int) (hl:(l.length:Int)≤1000000000000):Ev (fun k=>spec_UrnOk.f k l) (urnB l):=by
  simp only [spec_UrnOk.f]
  exact specUrn_loop l hl l [] rfl (by simp)
theorem specStart_loop (l:List Int) (hl:(l.length:Int)≤1000000000000):∀(suf pre:List Int),l=pre++suf→(∀x ∈ pre,x≤10) →
    Ev (fun k=>spec_StartOk.l0 k l (pre.length:Int)) (startB l):=by
  intro suf
  induction suf with
  |nil =>
    intro pre h hr
    have e:l.length=pre.length:=by rw [h];simp
    refine ev_suc ?_
    simp (disch:=omega) only [spec_StartOk.l0,if_neg]
    refine ev_bind (specUrnOk_ev l hl) (ev_now ?_)
    rw [List.append_nil] at h
    subst h
    have:(l.all fun x=>decide (x≤10))=true:=by simpa using hr
    simp [startB,this]
  |cons x t ih =>
    intro pre h hr
    have e:l.length=pre.length+(t.length+1):=by rw [h];simp
    have hx:rd l (pre.length:Int)=x:=by rw [h];exact rd_at _ _ _
    have hxl:x ∈ l:=by rw [h];simp
    refine ev_suc ?_
    simp (disch:=omega) only [spec_StartOk.l0,hx,if_pos]
    by_cases h1:x>10
    · refine ev_pos h1 (ev_now ?_)
      cases e:startB l with
      |false=>rfl
      |true=>have:=((startB_iff l).1 e).1 x hxl;omega
    · refine ev_neg h1 ?_
      rw [w64 (by omega) (by omega),len_at pre x]
      refine ih (pre++[x]) (by rw [h];simp) ?_
      intro y hy
      rcases List.mem_append.1 hy with hy|hy
      · exact hr y hy
      · rw [List.mem_singleton] at hy;subst hy;omega
theorem specStartOk_ev (l:List Int) (hl:(l.length:Int)≤1000000000000):Ev (fun k=>spec_StartOk.f k l) (startB l):=by
  simp only [spec_StartOk.f]
  exact specStart_loop l hl l [] rfl (by simp)
theorem wordB_no' {n:Int} {w:List Int} {x:Int} (hx:x ∈ w) (h:¬(0≤x∧x<n)):wordB n w=false:=by
  cases e:wordB n w with
  |false=>rfl
  |true=>exact absurd (((wordB_iff n w).1 e).1 x hx) h
theorem specWord_loop (n:Int) (l:List Int) (hl:(l.length:Int)≤1000000000000):∀(suf pre:List Int),l=pre++suf→(∀x ∈ pre,0≤x∧x<n) →
    Ev (fun k=>spec_WordOk.l0 k n l (pre.length:Int)) (wordB n l):=by
  intro suf
  induction suf with
  |nil =>
    intro pre h hr
    have e:l.length=pre.length:=by rw [h];simp
    refine ev_suc ?_
    simp (disch:=omega) only [spec_WordOk.l0,if_neg,l1In_eq,Option.bind_some]
    rw [List.append_nil] at h
    subst h
    by_cases hn:1≤n∧n≤3
    · refine ev_pos (by simp [hn]) (ev_now ?_)
      rw [Bool.eq_iff_iff,wordB_iff]
      simp only [decide_eq_true_eq]
      exact ⟨fun h=>⟨hr,by omega,hn⟩,fun h=>by omega⟩
    · refine ev_neg (by simp only [Bool.and_eq_true,decide_eq_true_eq];exact hn) (ev_now ?_)
      cases e:wordB n l with
      |false=>rfl
      |true=>exact absurd ((wordB_iff n l).1 e).2.2 hn
  |cons x t ih =>
    intro pre h hr
    have e:l.length=pre.length+(t.length+1):=by rw [h];simp
    have hx:rd l (pre.length:Int)=x:=by rw [h];exact rd_at _ _ _
    have hxl:x ∈ l:=by rw [h];simp
    refine ev_suc ?_
    simp (disch:=omega) only [spec_WordOk.l0,hx,if_pos]
    by_cases h1:x<0
    · exact ev_pos h1 (ev_now (wordB_no' hxl (by omega)).symm)
    · refine ev_neg h1 ?_
      by_cases h2:x≥n
      · exact ev_pos h2 (ev_now (wordB_no' hxl (by omega)).symm)
      · refine ev_neg h2 ?_
        rw [w64 (by omega) (by omega),len_at pre x]
        refine ih (pre++[x]) (by rw [h];simp) ?_
        intro y hy
        rcases List.mem_append.1 hy with hy|hy
        · exact hr y hy
        · rw [List.mem_singleton] at hy;subst hy;omega
theorem specWordOk_ev (n:Int) (l:List Int) (hl:(l.length:Int)≤1000000000000):Ev (fun k=>spec_WordOk.f k n l) (wordB n l):=by
  simp only [spec_WordOk.f]
  exact specWord_loop n l hl l [] rfl (by simp)
theorem l4After_loop (u:List Int) (R:List (List Int)) (c:Int) (row:List Int) (hc:0≤c∧c<(R.length:Int)) (hrow:rd_L3 R c=row) (hl:row.length=u.length) (hu:u.length≤3) (hB:Within 1000000000 row) (hA:Within 1000000000 u):∀(su sr pu pr acc:List Int),u=pu++su→row=pr++sr→pu.length=pr.length→acc.length=pu.length →
    Ev (fun k=>spec_l4After.l0 k u R c acc (pu.length:Int)) (acc++zipAdd su sr):=by
  intro su
  induction su with
  |nil =>
    intro sr pu pr acc h h' hp ha
    have e:u.length=pu.length:=by rw [h];simp
    have e':row.length=pr.length+sr.length:=by rw [h'];simp
    obtain rfl:sr=[]:=List.eq_nil_of_length_eq_zero (by omega)
    refine ev_suc ?_
    simp (disch:=omega) only [spec_l4After.l0,if_neg]
    exact ev_now (by simp [zipAdd])
  |cons x t ih =>
    intro sr pu pr acc h h' hp ha
    have e:u.length=pu.length+(t.length+1):=by rw [h];simp
    have e':row.length=pr.length+sr.length:=by rw [h'];simp
    cases sr with
    |nil=>simp at e';omega
    |cons y r =>
      have hx:rd u (pu.length:Int)=x:=by rw [h];exact rd_at _ _ _
      have hy:rd row (pu.length:Int)=y:=by rw [h',hp];exact rd_at _ _ _
      have bx:=hA x (by rw [h];simp)
      have bY:=hB y (by rw [h'];simp)
      refine ev_suc ?_
      simp (disch:=omega) only [spec_l4After.l0,hrow,hl,hx,hy,if_pos,w64]
      rw [len_at pu x]
      have:=ih r (pu++[x]) (pr++[y]) (acc++[x+y]) (by rw [h];simp) (by rw [h'];simp) (by simp [hp]) (by simp [ha])
      simpa [zipAdd] using this
theorem l4After_ev (u:List Int) (s c:Int) (hu:u.length≤3) (hs : -3≤s∧s≤3) (hc:0≤c∧c<(u.length:Int)) (hw:Within 1000000 u) :
    Ev (fun k=>spec_l4After.f k u (ruleM u.length s) c) (bump s u c):=by
  have er:rd_L3 (ruleM u.length s) c=(List.replicate u.length (0:Int)).set c.toNat s:=ruleM_row hc.1 hc.2
  have hW:=within_row (n:=u.length) (c:=c) hs
  simp only [spec_l4After.f]
  have:=l4After_loop u (ruleM u.length s) c _ (by rw [ruleM_len];exact hc) er (by simp) hu (fun x hx=>by have:=hW x hx;omega) (fun x hx=>by have:=hw x hx;omega) u ((List.replicate u.length (0:Int)).set c.toNat s) [] [] [] rfl (by simp) rfl rfl
  refine ev_eq this ?_
  rw [List.nil_append]
  exact zipAdd_row hu hc.1 hc.2
/-- What AfterWord tells. -/
def afterWordM (s:Int) (u w:List Int):List Int×Bool:=if 0<waysM s u w then (afterM s u w,true) else ([],false)
theorem afterWord_loop (n:Nat) (s:Int) (hn:n≤3) (hs : -3≤s∧s≤3) (w:List Int) (hw:w.length≤100) (hwn:∀c ∈ w,0≤c∧c<(n:Int)):∀(suf pre u:List Int) (b:Int),w=pre++suf→u.length=n→Within b u→0≤b→b+3*suf.length≤1000000 →
    Ev (fun k=>spec_AfterWord.l0 k (ruleM n s) w u (pre.length:Int)) (afterWordM s u suf):=by
  intro suf
  induction suf with
  |nil =>
    intro pre u b h _ _ _ _
    have e:w.length=pre.length:=by rw [h];simp
    refine ev_suc ?_
    simp (disch:=omega) only [spec_AfterWord.l0,if_neg]
    exact ev_now (by simp [afterWordM,waysM,afterM])
  |cons x t ih =>
    intro pre u b h hu hb hb0 hb1
    have e:w.length=pre.length+(t.length+1):=by rw [h];simp
    have hx:rd w (pre.length:Int)=x:=by rw [h];exact rd_at _ _ _
    have hxn:=hwn x (by rw [h];simp)
    simp only [List.length_cons] at hb1
    refine ev_suc ?_
    simp (disch:=omega) only [spec_AfterWord.l0,hx,if_pos]
    subst hu
    have hcp:=waysM_cons_pos s u x t
    by_cases h1:rd u x<1
    · refine ev_pos h1 (ev_now ?_)
      unfold afterWordM
      rw [if_neg (fun hp=>by have:=(hcp.1 hp).1;omega)]
    · refine ev_neg h1 (ev_bind (l4After_ev u s x hn hs hxn (fun y hy=>by have:=hb y hy;omega)) ?_)
      rw [w64 (by omega) (by omega),len_at pre x]
      have:=ih (pre++[x]) (bump s u x) (b+3) (by rw [h];simp) (bump_len _ _ _) (within_bump hb hs x hxn) (by omega) (by omega)
      refine ev_eq this ?_
      unfold afterWordM
      by_cases h2:0<waysM s (bump s u x) t
      · rw [if_pos h2,if_pos (hcp.2 ⟨by omega,h2⟩),afterM_cons]
      · rw [if_neg h2,if_neg (fun hp=>h2 (hcp.1 hp).2)]
theorem ruleOk_all:∀n:Fin 4,∀s:Fin 5,n.val=0∨spec_RuleOk.f 30 (n.val:Int) (ruleM n.val ((s.val:Int) - 1))=some true:=by decide +kernel
theorem ruleOk_ev (n:Nat) (s:Int) (h1:1≤n) (h3:n≤3) (hs : -1≤s∧s≤3):Ev (fun k=>spec_RuleOk.f k (n:Int) (ruleM n s)) true:=by
  have h:=(ruleOk_all ⟨n,by omega⟩ ⟨(s+1).toNat,by omega⟩).resolve_left (by simp only [];omega)
  have e:(((s+1).toNat:Nat):Int) - 1=s:=by omega
  simp only [e] at h
  exact Ev.of (fun k=>spec_RuleOk.mono _ _ k) h
theorem sSameRule_all:∀n:Fin 4,∀s:Fin 5,n.val=0∨spec_SameRule.f 20 (n.val:Int) ((s.val:Int) - 1)=some (ruleM n.val ((s.val:Int) - 1)):=by decide +kernel
theorem sSameRule_ev (n:Nat) (s:Int) (h1:1≤n) (h3:n≤3) (hs : -1≤s∧s≤3):Ev (fun k=>spec_SameRule.f k (n:Int) s) (ruleM n s):=by
  have h:=(sSameRule_all ⟨n,by omega⟩ ⟨(s+1).toNat,by omega⟩).resolve_left (by simp only [];omega)
  have e:(((s+1).toNat:Nat):Int) - 1=s:=by omega
  simp only [e] at h
  exact Ev.of (fun k=>spec_SameRule.mono _ _ k) h
theorem afterWord_ev (u:List Int) (s:Int) (w:List Int) (hS:startB u=true) (hs : -1≤s∧s≤3) (hw:(w.length:Int)≤1000000000000) :
    Ev (fun k=>spec_AfterWord.f k u (ruleM u.length s) w) (if wordB (u.length:Int) w=true then afterWordM s u w else ([],false)):=by
  have hu3:=(startB_iff u).1 hS
  simp only [spec_AfterWord.f]
  refine ev_bind (specStartOk_ev u (by omega)) (ev_pos hS (ev_bind (ruleOk_ev u.length s hu3.2.1 hu3.2.2 hs) (ev_pos rfl (ev_bind (specWordOk_ev (u.length:Int) w hw) (ev_suc ?_)))))
  by_cases hW:wordB (u.length:Int) w=true
  · have hw6:=(wordB_iff _ _).1 hW
    rw [if_pos hW]
    simp only [spec_AfterWord.j0,hW,Bool.not_true]
    refine ev_neg (by simp) (ev_bind (Ev.now _) (ev_pos (by simp;omega) ?_))
    rw [List.nil_append]
    exact afterWord_loop u.length s hu3.2.2 ⟨by omega,by omega⟩ w (by omega) hw6.1 w [] u 10 rfl rfl (fun x hx=>by have:=hu3.1 x hx;omega) (by omega) (by omega)
  · have hf:wordB (u.length:Int) w=false:=by simpa using hW
    rw [if_neg hW]
    simp only [spec_AfterWord.j0,hf,Bool.not_false,if_true]
    exact Ev.now _
theorem specPlace_ev (u:List Int) (s:Int) (w:List Int) (hu:(u.length:Int)≤1000000000000) (hw:(w.length:Int)≤1000000000000):Ev (fun k=>spec_PlaceOk.f k u s w) (placeB u s w):=by
  have hj:∀r,r=placeB u s w→r=false→Ev (fun k=>spec_PlaceOk.j0 k true u s w) r:=by
    rintro r _ rfl
    refine ev_suc ?_
    simp only [spec_PlaceOk.j0,if_true]
    exact Ev.now _
  simp only [spec_PlaceOk.f]
  refine ev_bind (specStartOk_ev u hu) ?_
  by_cases hS:startB u=true
  · refine ev_pos hS ?_
    simp only [l1In_eq,Option.bind_some]
    have hu3:=(startB_iff u).1 hS
    by_cases h1 : -1≤s∧s≤3
    · have e:(decide (-1≤s) && decide (s≤3))=true:=by simp [h1]
      refine ev_suc ?_
      simp only [spec_PlaceOk.j0,e,Bool.not_true]
      refine ev_neg (by simp) (ev_bind (sSameRule_ev u.length s hu3.2.1 hu3.2.2 h1) (ev_bind (afterWord_ev u s w hS h1 hw) (ev_now ?_)))
      by_cases hW:wordB (u.length:Int) w=true
      · rw [if_pos hW]
        unfold afterWordM
        by_cases h2:0<waysM s u w
        · rw [if_pos h2];simp [placeB,hS,hW,h1,h2]
        · rw [if_neg h2];simp [placeB,hS,hW,h1,h2]
      · rw [if_neg hW]
        have hf:wordB (u.length:Int) w=false:=by simpa using hW
        simp [placeB,hf]
    · have e:(decide (-1≤s) && decide (s≤3))=false:=by
        rw [Bool.and_eq_false_iff];simp only [decide_eq_false_iff_not];omega
      rw [e]
      refine hj _ rfl ?_
      unfold placeB
      rw [Bool.and_eq_false_iff] at e
      rcases e with e|e<;>simp [e]
  · refine ev_neg hS (hj _ rfl ?_)
    have hf:startB u=false:=by simpa using hS
    simp [placeB,hf]
theorem drawUrn_loop {b:List Int} (hb:BytesOk b):∀(d:Nat) (l:List Int) (p:Int),l.length+d≤3→1≤l.length+d→(∀x ∈ l,0≤x∧x≤5)→0≤p→p+(d:Int)≤1000000000 →
    ∃o,Ev (fun k=>spec_l20Urn.l0 k 0 l (d:Int) b p) (o,p+d)∧o.length=l.length+d∧∀x ∈ o,0≤x∧x≤5:=by
  intro d
  induction d with
  |zero =>
    intro l p hd hd1 hr h0 hp
    refine ⟨l,ev_suc ?_,by simp,hr⟩
    simp only [spec_l20Urn.l0]
    refine ev_neg (by omega) (ev_bind (odd0_ev b p) (ev_neg (by simp) (ev_now (by simp))))
  |succ d ih =>
    intro l p hd hd1 hr h0 hp
    obtain ⟨r,hr1,r0,r1,_⟩:=pick_ev hb p 6 h0 (by omega) (by omega)
    have hr6:=r1 (by omega)
    obtain ⟨o,ho,ho1,ho2⟩:=ih (l++[r]) (p+1) (by simp;omega) (by simp;omega) (by
      intro x hx
      rcases List.mem_append.1 hx with hx|hx
      · exact hr x hx
      · rw [List.mem_singleton] at hx;subst hx;omega) (by omega) (by omega)
    refine ⟨o,ev_suc ?_,by rw [ho1];simp;omega,ho2⟩
    simp only [spec_l20Urn.l0]
    refine ev_pos (by omega) (ev_bind hr1 (ev_pos (by omega) ?_))
    rw [w64 (by omega) (by omega)]
    have e:((d+1:Nat):Int) - 1=(d:Int):=by omega
    simp only [e]
    refine ev_eq ho ?_
    congr 1
    omega
theorem drawUrn_ev {b:List Int} (hb:BytesOk b) (p:Int) (h0:0≤p) (hp:p≤100000000) :
    ∃o p',Ev (fun k=>spec_l20Urn.f k b p 0) (o,p')∧1≤o.length∧o.length≤3∧(∀x ∈ o,0≤x∧x≤5)∧p≤p'∧p'≤p+4:=by
  obtain ⟨r,hr,r0,r1,_⟩:=pick_ev hb p 3 h0 (by omega) (by omega)
  have hr3:=r1 (by omega)
  obtain ⟨o,ho,ho1,ho2⟩:=drawUrn_loop hb (1+r).toNat [] (p+1) (by simp;omega) (by simp;omega) (by simp) (by omega) (by omega)
  refine ⟨o,p+1+((1+r).toNat:Int),?_,by rw [ho1];simp;omega,by rw [ho1];simp;omega,ho2,by omega,by omega⟩
  simp only [spec_l20Urn.f]
  refine ev_bind hr ?_
  simp only []
  rw [w64 (by omega) (by omega)]
  have e:((1+r).toNat:Int)=1+r:=by omega
  rw [e] at ho ⊢
  exact ho
theorem drawPlace_loop {b:List Int} (hb:BytesOk b) (n:Int) (hn:0≤n∧n≤1000) (u:List Int) (s:Int) (hu:1≤u.length∧u.length≤3) (hs : -1≤s∧s≤3):∀(d:Nat) (w:List Int) (p:Int),d≤4→w.length+d≤4→0≤p→p+(d:Int)≤1000000000 →
    ∃u' s' w' p',Ev (fun k=>spec_l20Place.l0 k n (d:Int) b p u s w) (u',s',w',p')∧u'.length≤3∧w'.length≤5∧-1≤s'∧s'≤4∧p≤p'∧p'≤p+d+2∧(n=0→u'=u∧s'=s):=by
  intro d
  induction d with
  |zero =>
    intro w p hd hd1 h0 hp
    by_cases hn0:n=0
    · subst hn0
      refine ⟨u,s,w,p,ev_suc ?_,hu.2,by omega,by omega,by omega,by omega,by omega,fun _=>⟨rfl,rfl⟩⟩
      simp only [spec_l20Place.l0]
      exact ev_neg (by omega) (ev_bind (odd0_ev b p) (ev_neg (by simp) (Ev.now _)))
    · obtain ⟨q,hq⟩:=odd_ev hb p n (by omega) (by omega) (by omega) (by omega)
      cases q with
      |false =>
        refine ⟨u,s,w,p+1,ev_suc ?_,hu.2,by omega,by omega,by omega,by omega,by omega,fun h=>absurd h hn0⟩
        simp only [spec_l20Place.l0]
        exact ev_neg (by omega) (ev_bind hq (ev_neg (by simp) (Ev.now _)))
      |true =>
        obtain ⟨r,hr,r0,r1,_⟩:=pick_ev hb (p+1) 3 (by omega) (by omega) (by omega)
        have hr3:=r1 (by omega)
        by_cases e0:r=0
        · refine ⟨u,4,w,p+1+1,ev_suc ?_,hu.2,by omega,by omega,by omega,by omega,by omega,fun h=>absurd h hn0⟩
          simp only [spec_l20Place.l0]
          exact ev_neg (by omega) (ev_bind hq (ev_pos rfl (ev_bind hr (ev_pos e0 (Ev.now _)))))
        · by_cases e1:r=1
          · refine ⟨u,s,w++[3],p+1+1,ev_suc ?_,hu.2,by simp;omega,by omega,by omega,by omega,by omega,fun h=>absurd h hn0⟩
            simp only [spec_l20Place.l0]
            exact ev_neg (by omega) (ev_bind hq (ev_pos rfl (ev_bind hr (ev_neg e0 (ev_pos e1 (ev_pos (by omega) (Ev.now _)))))))
          · refine ⟨[],0,[],p+1+1,ev_suc ?_,by simp,by simp,by omega,by omega,by omega,by omega,fun h=>absurd h hn0⟩
            simp only [spec_l20Place.l0]
            exact ev_neg (by omega) (ev_bind hq (ev_pos rfl (ev_bind hr (ev_neg e0 (ev_neg e1 (Ev.now _))))))
  |succ d ih =>
    intro w p hd hd1 h0 hp
    obtain ⟨r,hr,r0,r1,_⟩:=pick_ev hb p (u.length:Int) h0 (by omega) (by omega)
    have e:((d+1:Nat):Int) - 1=(d:Int):=by omega
    have hP:=specPlace_ev u s (w++[r]) (by omega) (by simp;omega)
    by_cases hB:placeB u s (w++[r])=true
    · obtain ⟨u',s',w',p',h,h1,h2,h3,h4,h5,h6,h7⟩:=ih (w++[r]) (p+1) (by omega) (by simp;omega) (by omega) (by omega)
      refine ⟨u',s',w',p',ev_suc ?_,h1,h2,h3,h4,by omega,by omega,h7⟩
      simp only [spec_l20Place.l0]
      refine ev_pos (by omega) (ev_bind (Ev.now _) (ev_pos (by simp;omega) (ev_bind (Ev.now _) (ev_bind hr (ev_pos (by simp;omega) (ev_bind (Ev.now _) ?_))))))
      simp only [List.nil_append]
      refine ev_bind hP (ev_pos hB ?_)
      rw [w64 (by omega) (by omega),e]
      exact h
    · obtain ⟨u',s',w',p',h,h1,h2,h3,h4,h5,h6,h7⟩:=ih w (p+1) (by omega) (by omega) (by omega) (by omega)
      refine ⟨u',s',w',p',ev_suc ?_,h1,h2,h3,h4,by omega,by omega,h7⟩
      simp only [spec_l20Place.l0]
      refine ev_pos (by omega) (ev_bind (Ev.now _) (ev_pos (by simp;omega) (ev_bind (Ev.now _) (ev_bind hr (ev_pos (by simp;omega) (ev_bind (Ev.now _) ?_))))))
      simp only [List.nil_append]
      refine ev_bind hP (ev_neg hB ?_)
      rw [w64 (by omega) (by omega),e]
      exact h
theorem drawPlace_ev {b:List Int} (hb:BytesOk b) (p n:Int) (hn:0≤n∧n≤1000) (h0:0≤p) (hp:p≤10000000) :
    ∃u s w p',Ev (fun k=>spec_l20Place.f k b p n) (u,s,w,p')∧u.length≤3∧w.length≤5∧-1≤s∧s≤4∧p≤p'∧p'≤p+12∧(n=0→1≤u.length):=by
  obtain ⟨u,p1,e1,a1,a2,a3,a4,a5⟩:=drawUrn_ev hb p h0 (by omega)
  obtain ⟨r,hr,r0,r1,_⟩:=pick_ev hb p1 5 (by omega) (by omega) (by omega)
  have hr5:=r1 (by omega)
  obtain ⟨q,hq,q0,q1,_⟩:=pick_ev hb (p1+1) 5 (by omega) (by omega) (by omega)
  have hq5:=q1 (by omega)
  obtain ⟨u',s',w',p',h,h1,h2,h3,h4,h5,h6,h7⟩:=drawPlace_loop hb n hn u (r - 1) ⟨a1,a2⟩ ⟨by omega,by omega⟩ q.toNat [] (p1+1+1) (by omega) (by simp;omega) (by omega) (by omega)
  refine ⟨u',s',w',p',?_,h1,h2,h3,h4,by omega,by omega,fun hz=>by rw [(h7 hz).1];exact a1⟩
  simp only [spec_l20Place.f]
  refine ev_bind e1 (ev_bind hr (ev_bind hq ?_))
  simp only []
  rw [w64 (by omega) (by omega)]
  have e:(q.toNat:Int)=q:=by omega
  rw [e] at h
  exact h
theorem l15Step_ev {n:Int} (h0 : -99≤n) (h1:n≤99):Ev (fun k=>spec_l15Step.f k n) (ba (numT n)):=by
  have:=small_all (p:=fun n=>decide (spec_l15Step.f 5 n=some (ba (numT n)))) (by decide +kernel) h0 h1
  exact Ev.of (fun k=>spec_l15Step.mono _ _) (of_decide_eq_true this)
theorem litb (l:Tx):(⟨⟨l⟩⟩:ByteArray)=ba l:=rfl
theorem l1Number_ev {n:Int} (h0:0≤n) (h1:n≤99):Ev (fun k=>spec_l1Number.f k n) (ba (numT n)):=by
  have:=small_all (p:=fun n=>decide (n<0) ||decide (spec_l1Number.f 5 n=some (ba (numT n)))) (by decide +kernel) (n:=n) (by omega) h1
  rw [decide_eq_false (by omega),Bool.false_or] at this
  exact Ev.of (fun k=>spec_l1Number.mono _ _) (of_decide_eq_true this)
theorem specIn_ev (a b c:Int):spec_l1In.f a b c=some (decide (b≤a∧a≤c)):=by
  unfold spec_l1In.f
  split<;>simp<;>omega
theorem sdeed_far (k a b:Int):Ev (fun n=>spec_DeedText.j0 n true k a b) (ba []):=ev_suc (by simp only [spec_DeedText.j0];exact ev_pos trivial (Ev.now _))
theorem sdeed_ev (k a b:Int):Ev (fun n=>spec_DeedText.f n k a b) (ba (deedT k a b)):=by
  unfold deedT spec_DeedText.f
  simp only [specIn_ev,Option.bind_some,decide_eq_true_eq]
  by_cases ha : -99≤a∧a≤99
  case neg=>rw [if_neg (fun h=>ha h.1)];exact ev_neg ha (sdeed_far k a b)
  by_cases hb : -99≤b∧b≤99
  case neg =>
    rw [if_neg (fun h=>hb h.2)]
    refine ev_pos ha ?_
    rw [decide_eq_false hb]
    exact sdeed_far k a b
  rw [if_pos ⟨ha,hb⟩]
  refine ev_pos ha ?_
  rw [decide_eq_true hb]
  refine ev_suc ?_
  simp only [spec_DeedText.j0,Bool.not_true,Bool.false_eq_true,if_false,Bool.and_eq_true,beq_iff_eq]
  obtain ⟨_,l1,l2⟩:=numT_bytes ha.1 ha.2
  obtain ⟨_,m1,m2⟩:=numT_bytes hb.1 hb.2
  split
  · refine ev_bind (l15Step_ev ha.1 ha.2) (ev_pos (by rw [ba_size];omega) (ev_pos (by rw [litb,ba_append,ba_size,List.length_append];simp;omega) (ev_bind (l15Step_ev hb.1 hb.2) (ev_pos ?_ ?_))))
    · rw [litb,litb,ba_append,ba_append,ba_size,ba_size];simp;omega
    · rw [litb,litb,ba_append,ba_append,ba_append]
      refine ev_eq (Ev.now _) ?_
      simp [putW]
  split
  · exact ev_bind (l15Step_ev ha.1 ha.2) (ev_pos (by rw [ba_size];omega) (ev_eq (Ev.now _) (by rw [litb,ba_append];simp [stepW])))
  split
  · exact ev_bind (l15Step_ev ha.1 ha.2) (ev_pos (by rw [ba_size];omega) (ev_eq (Ev.now _) (by rw [litb,ba_append];simp [drawW])))
  split
  · exact Ev.now _
  split
  · exact Ev.now _
  · exact Ev.now _
theorem drawWritten_loop {b:List Int} (p:Int) (l:List S41) (hl:l.length≤100):∀(suf pre acc:List S41),l=pre++suf→acc.length≤pre.length →
    ∃ds,Ev (fun k=>spec_l20Written.l0 k acc l (pre.length:Int) b p) (ds,p)∧ds.length≤acc.length+suf.length:=by
  intro suf
  induction suf with
  |nil =>
    intro pre acc h _
    rw [List.append_nil] at h
    subst h
    refine ⟨acc,ev_suc ?_,by simp⟩
    simp only [spec_l20Written.l0]
    exact ev_neg (by omega) (Ev.now _)
  |cons x t ih =>
    intro pre acc h ha
    have e:l.length=pre.length+(t.length+1):=by rw [h];simp
    have hx:rd_T41 l (pre.length:Int)=x:=by rw [h];simp [rd_T41]
    by_cases hd:deedT x.f0 x.f1 x.f2=[]
    · obtain ⟨ds,h1,h2⟩:=ih (pre++[x]) acc (by rw [h];simp) (by simp;omega)
      refine ⟨ds,ev_suc ?_,by simp;omega⟩
      simp only [spec_l20Written.l0,hx]
      refine ev_pos (by omega) (ev_pos (by omega) (ev_bind (sdeed_ev _ _ _) (ev_pos (by rw [toList_ba];exact hd) ?_)))
      rw [w64 (by omega) (by omega),len_at pre x]
      exact h1
    · obtain ⟨ds,h1,h2⟩:=ih (pre++[x]) (acc++[x]) (by rw [h];simp) (by simp;omega)
      refine ⟨ds,ev_suc ?_,by simp at h2 ⊢;omega⟩
      simp only [spec_l20Written.l0,hx]
      refine ev_pos (by omega) (ev_pos (by omega) (ev_bind (sdeed_ev _ _ _) (ev_neg (by rw [toList_ba];exact hd) (ev_pos (by omega) ?_))))
      rw [w64 (by omega) (by omega),len_at pre x]
      exact h1
theorem drawWritten_ev {b:List Int} (hb:BytesOk b) (p:Int) (h0:0≤p) (hp:p≤1000) :
    ∃ds q,Ev (fun k=>spec_l20Written.f k b p) (ds,q)∧ds.length≤5∧p≤q∧q≤p+100:=by
  obtain ⟨u,s,w,p',hd,h1,h2,h3,h4,h5,h6,_⟩:=drawPlace_ev hb p 0 ⟨by omega,by omega⟩ h0 (by omega)
  obtain ⟨l,q,hl,l1,l2,l3⟩:=drawDeeds_ev hb u s w (by omega) p' (by omega) (by omega)
  obtain ⟨ds,he,e1⟩:=drawWritten_loop (b:=b) q l (by omega) l [] [] rfl (by simp)
  refine ⟨ds,q,?_,by simp at e1;omega,by omega,by omega⟩
  simp only [spec_l20Written.f]
  exact ev_bind hd (ev_bind hl he)
theorem spoil_ev {b:List Int} (hb:BytesOk b) (p:Int) (h0:0≤p) (hp:p≤100000000) (x:Tx) (hx:x.length≤1000000) :
    ∃y q,Ev (fun k=>spec_l20Spoil.f k b p (ba x)) (ba y,q)∧y.length≤x.length+4∧p≤q∧q≤p+2:=by
  by_cases hz:((ba x).size:Int)=0
  · refine ⟨[10],p,?_,by simp,by omega,by omega⟩
    simp only [spec_l20Spoil.f]
    exact ev_pos hz (Ev.now _)
  · rw [ba_size] at hz
    obtain ⟨i,hi,i0,i1,_⟩:=pick_ev hb p (x.length:Int) h0 (by omega) (by omega)
    obtain ⟨j,hj,j0,j1,_⟩:=pick_ev hb (p+1) 6 (by omega) (by omega) (by omega)
    have hi1:=i1 (by omega)
    have hj1:=j1 (by omega)
    obtain ⟨m,rfl⟩:=Int.eq_ofNat_of_zero_le j0
    obtain ⟨z,hzr,hzl⟩:∃z:Tx,rdOf ByteArray.empty [(⟨#[]⟩:ByteArray),(⟨#[48]⟩:ByteArray),(⟨#[32]⟩:ByteArray),(⟨#[10]⟩:ByteArray),(⟨#[49]⟩:ByteArray),(⟨#[98,97,99,107]⟩:ByteArray)] (m:Int)=ba z∧z.length≤4:=by
      have:m=0∨m=1∨m=2∨m=3∨m=4∨m=5:=by omega
      rcases this with rfl|rfl|rfl|rfl|rfl|rfl
      · exact ⟨[],rfl,by simp⟩
      · exact ⟨[48],rfl,by simp⟩
      · exact ⟨[32],rfl,by simp⟩
      · exact ⟨[10],rfl,by simp⟩
      · exact ⟨[49],rfl,by simp⟩
      · exact ⟨[98,97,99,107],rfl,by simp⟩
    refine ⟨x.take i.toNat++z++x.drop (i+1).toNat,p+1+1,?_,?_,by omega,by omega⟩
    · simp only [spec_l20Spoil.f,ba_size]
      refine ev_neg hz (ev_bind hi (ev_pos i0 (ev_pos (by omega) (ev_bind (Ev.now _) (ev_bind hj (ev_pos j0 (ev_pos (by simp;omega) ?_)))))))
      simp only [hzr,w64 (n:=i+1) (by omega) (by omega),ba_extract,ba_append,ba_size]
      refine ev_pos (by simp;omega) (ev_pos (by omega) (ev_pos (by omega) (ev_pos (by simp;omega) (ev_now ?_))))
      congr 2
      simp
      exact List.take_of_length_le (by simp)
    · simp;omega
theorem itoa_ev {n:Int} (h0 : -99≤n) (h1:n≤99):strconv_Itoa.f n=some (ba (numT n)):=by
  unfold strconv_Itoa.f
  rw [if_pos ⟨by omega,by omega⟩,itoa_small h0 h1]
  rfl
theorem ideed_far (k a b:Int):Ev (fun n=>impl_DeedText.j0 n true k a b) (ba []):=ev_suc (by simp only [impl_DeedText.j0];exact ev_pos trivial (Ev.now _))
theorem ideed_ev (k a b:Int):Ev (fun n=>impl_DeedText.f n k a b) (ba (deedT k a b)):=by
  unfold deedT impl_DeedText.f
  by_cases h1:a < -99
  · rw [if_neg (fun h=>by omega)];exact ev_pos h1 (ideed_far k a b)
  refine ev_neg h1 ?_
  by_cases h2:a>99
  · rw [if_neg (fun h=>by omega)];exact ev_pos h2 (ideed_far k a b)
  refine ev_neg h2 ?_
  by_cases h3:b < -99
  · rw [if_neg (fun h=>by omega)];exact ev_pos h3 (ideed_far k a b)
  refine ev_neg h3 ?_
  by_cases h4:b>99
  · rw [if_neg (fun h=>by omega),decide_eq_true h4];exact ideed_far k a b
  rw [if_pos (by omega),decide_eq_false h4]
  have ha : -99≤a∧a≤99:=by omega
  have hb : -99≤b∧b≤99:=by omega
  refine ev_suc ?_
  simp only [impl_DeedText.j0,Bool.false_eq_true,if_false,Bool.and_eq_true,beq_iff_eq,itoa_ev ha.1 ha.2,itoa_ev hb.1 hb.2,Option.bind_some]
  obtain ⟨_,l1,l2⟩:=numT_bytes ha.1 ha.2
  obtain ⟨_,m1,m2⟩:=numT_bytes hb.1 hb.2
  refine ev_pos (by rw [ba_size];omega) ?_
  simp only [litb,ba_append,ba_size]
  split
  · rename_i hk
    refine ev_pos (by simp;omega) (ev_pos (by simp;omega) (ev_pos (by simp;omega) (ev_eq (Ev.now _) ?_)))
    simp [putW]
  rename_i hk
  by_cases hb0:b=0
  · refine ev_pos hb0 ?_
    simp only [hb0,and_true]
    split
    · exact ev_pos (by simp;omega) (ev_eq (Ev.now _) (by simp [stepW]))
    split
    · exact ev_pos (by simp;omega) (ev_eq (Ev.now _) (by simp [drawW]))
    by_cases ha0:a=0
    · refine ev_pos ha0 ?_
      simp only [ha0,and_true]
      split
      · exact Ev.now _
      split
      · exact Ev.now _
      · exact Ev.now _
    · refine ev_neg ha0 ?_
      simp only [ha0,and_false,if_false]
      exact Ev.now _
  · refine ev_neg hb0 ?_
    simp only [hb0,and_false,if_false]
    exact Ev.now _
def triD (x:S41):Int×Int×Int:=(x.f0,x.f1,x.f2)
theorem sjournal_loop (l:List S41) (hl:l.length≤1048576):∀(suf pre:List S41) (acc:Tx),l=pre++suf→acc.length≤12*pre.length →
    Ev (fun k=>spec_JournalText.l0 k l (ba acc) (pre.length:Int)) (ba (journalT acc (suf.map triD))):=by
  intro suf
  induction suf with
  |nil =>
    intro pre acc h _
    rw [List.append_nil] at h
    subst h
    refine ev_suc ?_
    simp only [spec_JournalText.l0]
    exact ev_neg (by omega) (Ev.now _)
  |cons x t ih =>
    intro pre acc h ha
    have e:l.length=pre.length+(t.length+1):=by rw [h];simp
    have hx:rd_T41 l (pre.length:Int)=x:=by rw [h];simp [rd_T41]
    have hd:=deed_len x.f0 x.f1 x.f2
    refine ev_suc ?_
    simp only [spec_JournalText.l0,hx]
    refine ev_pos (by omega) (ev_pos (by omega) (ev_bind (sdeed_ev _ _ _) ?_))
    simp only [toList_ba,List.map_cons,journalT,triD]
    split
    · exact Ev.now _
    · refine ev_bind (sdeed_ev _ _ _) (ev_pos (by rw [ba_size,ba_size];omega) ?_)
      rw [ba_append,ba_size,List.length_append]
      refine ev_pos (by omega) ?_
      rw [w64 (by omega) (by omega),len_at pre x,litb,ba_append]
      exact ih (pre++[x]) _ (by rw [h];simp) (by simp;omega)
theorem ijournal_loop (l:List S41) (hl:l.length≤1048576):∀(suf pre:List S41) (acc:Tx),l=pre++suf→acc.length≤12*pre.length →
    Ev (fun k=>impl_JournalText.l0 k (ba acc) l (l.length:Int) (pre.length:Int)) (ba (journalT acc (suf.map triD))):=by
  intro suf
  induction suf with
  |nil =>
    intro pre acc h _
    rw [List.append_nil] at h
    subst h
    refine ev_suc ?_
    simp only [impl_JournalText.l0]
    exact ev_neg (by omega) (Ev.now _)
  |cons x t ih =>
    intro pre acc h ha
    have e:l.length=pre.length+(t.length+1):=by rw [h];simp
    have hx:rd_T41 l (pre.length:Int)=x:=by rw [h];simp [rd_T41]
    have hd:=deed_len x.f0 x.f1 x.f2
    refine ev_suc ?_
    simp only [impl_JournalText.l0,hx]
    refine ev_pos (by omega) (ev_pos (by omega) (ev_pos (by omega) (ev_bind (ideed_ev _ _ _) ?_)))
    simp only [toList_ba,List.map_cons,journalT,triD]
    split
    · exact Ev.now _
    · refine ev_pos (by rw [ba_size];omega) ?_
      rw [litb,ba_append,ba_size,ba_size,List.length_append]
      refine ev_pos (by simp;omega) ?_
      rw [w64 (by omega) (by omega),len_at pre x,ba_append]
      refine ev_eq (ih (pre++[x]) _ (by rw [h];simp) (by simp;omega)) ?_
      simp
theorem sjournal_ev (l:List S41) (hl:l.length≤1048576):Ev (fun k=>spec_JournalText.f k l) (ba (journalT [] (l.map triD))):=by
  unfold spec_JournalText.f
  exact sjournal_loop l hl l [] [] rfl (by simp)
theorem ijournal_ev (l:List S41) (hl:l.length≤1048576):Ev (fun k=>impl_JournalText.f k l) (ba (journalT [] (l.map triD))):=by
  unfold impl_JournalText.f
  exact ijournal_loop l hl l [] [] rfl (by simp)
theorem readD_cases (x:Tx):(∃k a b,readD x=(k,a,b,true)∧deedT k a b=x∧x≠[])∨readD x=(0,0,0,false):=by
  by_cases h:∃k a b,deedT k a b=x∧x≠[]
  · obtain ⟨k,a,b,h1,h2⟩:=h
    exact Or.inl ⟨k,a,b,readD_of h1 h2,h1,h2⟩
  · exact Or.inr (readD_not fun k a b h1=>Classical.byContradiction fun h2=>h ⟨k,a,b,h1,h2⟩)
def bodyT:List (Int×Int×Int)→Tx
  | []=>[]
  |d :: t=>deedT d.1 d.2.1 d.2.2++10 :: bodyT t
theorem journalT_all:∀(ds:List (Int×Int×Int)) (acc:Tx),(∀d ∈ ds,deedT d.1 d.2.1 d.2.2≠[])→journalT acc ds=acc++bodyT ds
  | [],acc,_=>by simp [journalT,bodyT]
  |d :: t,acc,h=>by
    rw [journalT,if_neg (h d (by simp)),journalT_all t _ (fun e he=>h e (by simp [he]))]
    simp [bodyT]
theorem journalT_none:∀(ds:List (Int×Int×Int)) (acc:Tx),(¬∀d ∈ ds,deedT d.1 d.2.1 d.2.2≠[])→journalT acc ds=[]
  | [],acc,h=>absurd (fun d hd=>by cases hd) h
  |d :: t,acc,h=>by
    rw [journalT]
    split
    · rfl
    · rename_i hd
      exact journalT_none t _ fun ht=>h fun e he=>by
        rcases List.mem_cons.1 he with rfl|he
        · exact hd
        · exact ht e he
theorem bodyT_len:∀(ds:List (Int×Int×Int)),(bodyT ds).length≤12*ds.length
  | []=>by simp [bodyT]
  |d :: t=>by
    have h1:=deed_len d.1 d.2.1 d.2.2
    have h2:=bodyT_len t
    simp [bodyT];omega
theorem journalT_len (ds:List (Int×Int×Int)):(journalT [] ds).length≤12*ds.length:=by
  by_cases ha:∀d ∈ ds,deedT d.1 d.2.1 d.2.2≠[]
  · rw [journalT_all ds [] ha]
    exact bodyT_len ds
  · rw [journalT_none ds [] ha];simp
theorem drawJournal_ev {l:List Int} (hw:∀x ∈ l,(Lit.int .u8 x).wf=true):∃y:Tx,Ev (fun k=>spec_DrawReadJournal.f k l) (ba y)∧y.length≤100:=by
  obtain ⟨b,hb,hB⟩:=open_ev hw
  obtain ⟨ds,q,hd,d1,d2,d3⟩:=drawWritten_ev hB 0 (by omega) (by omega)
  have hj:=journalT_len (ds.map triD)
  rw [List.length_map] at hj
  have hJ:=sjournal_ev ds (by omega)
  generalize journalT [] (ds.map triD)=y at hj hJ
  obtain ⟨c,hc,c0,c1,_⟩:=pick_ev hB q 3 (by omega) (by omega) (by omega)
  by_cases z0:c=0
  · obtain ⟨y',q',hy,l1,_⟩:=spoil_ev hB (q+1) (by omega) (by omega) y (by omega)
    refine ⟨y',?_,by omega⟩
    simp only [spec_DrawReadJournal.f,hb]
    exact ev_bind (Ev.now _) (ev_bind hd (ev_bind hJ (ev_bind hc (ev_pos z0 (ev_bind hy (Ev.now _))))))
  by_cases z1:c=1
  · obtain ⟨r,hr,r0,r1,_⟩:=pick_ev hB (q+1) ((y.length:Int)+1) (by omega) (by omega) (by omega)
    have:=r1 (by omega)
    refine ⟨y.take r.toNat,?_,by rw [List.length_take];omega⟩
    simp only [spec_DrawReadJournal.f,hb]
    refine ev_bind (Ev.now _) (ev_bind hd (ev_bind hJ (ev_bind hc (ev_neg z0 (ev_pos z1 ?_)))))
    rw [ba_size,w64 (by omega) (by omega)]
    refine ev_bind hr (ev_pos (by omega) (ev_pos (by omega) (ev_eq (Ev.now _) ?_)))
    rw [ba_extract];simp
  · refine ⟨y,?_,by omega⟩
    simp only [spec_DrawReadJournal.f,hb]
    exact ev_bind (Ev.now _) (ev_bind hd (ev_bind hJ (ev_bind hc (ev_neg z0 (ev_neg z1 (Ev.now _))))))
theorem rdP_at (p:List S30) (a:S30) (t:List S30):rd_T30 (p++a :: t) (p.length:Int)=a:=by simp [rd_T30]
/-- A place whose lists aren't too long to be counted. -/
def Sized1 (q:S30):Prop:=(q.f0.length:Int)≤1000000000000∧(q.f2.length:Int)≤1000000000000
def deskB (u:List Int) (s:Int) (w:List Int) (a:List S30):Bool:=(a.all fun q=>placeB q.f0 q.f1 q.f2) && (placeB u s w && decide (a.length≤8))
theorem deskB_iff (u:List Int) (s:Int) (w:List Int) (a:List S30):deskB u s w a=true ↔ (∀q ∈ a,placeB q.f0 q.f1 q.f2=true)∧placeB u s w=true∧a.length≤8:=by simp [deskB]
theorem specDesk_loop (u:List Int) (s:Int) (w:List Int) (a:List S30) (hu:(u.length:Int)≤1000000000000) (hw:(w.length:Int)≤1000000000000) (hl:(a.length:Int)≤1000000000000) (hA:∀q ∈ a,Sized1 q):∀(x p:List S30),a=p++x→(∀q ∈ p,placeB q.f0 q.f1 q.f2=true) →
    Ev (fun k=>spec_DeskOk.l0 k (p.length:Int) u s w a) (deskB u s w a):=by
  intro x
  induction x with
  |nil =>
    intro p h hp
    have e:a.length=p.length:=by rw [h];simp
    refine ev_suc ?_
    simp (disch:=omega) only [spec_DeskOk.l0,if_neg]
    rw [List.append_nil] at h
    subst h
    refine ev_bind (specPlace_ev u s w hu hw) ?_
    have hall:(a.all fun q=>placeB q.f0 q.f1 q.f2)=true:=by simpa using hp
    by_cases hP:placeB u s w=true
    · refine ev_pos hP (ev_now ?_)
      simp only [deskB,hall,hP,Bool.true_and]
      rw [Bool.eq_iff_iff];simp only [decide_eq_true_eq];omega
    · refine ev_neg hP (ev_now ?_)
      have hf:placeB u s w=false:=by simpa using hP
      simp [deskB,hf]
  |cons c x ih =>
    intro p h hp
    have e:a.length=p.length+(x.length+1):=by rw [h];simp
    have hx:rd_T30 a (p.length:Int)=c:=by rw [h];exact rdP_at _ _ _
    have hca:c ∈ a:=by rw [h];simp
    have hc:=hA c hca
    refine ev_suc ?_
    simp (disch:=omega) only [spec_DeskOk.l0,hx,if_pos,w64]
    refine ev_bind (specPlace_ev c.f0 c.f1 c.f2 hc.1 hc.2) ?_
    by_cases hP:placeB c.f0 c.f1 c.f2=true
    · refine ev_pos hP ?_
      rw [len_at p c]
      refine ih (p++[c]) (by rw [h];simp) ?_
      intro q hq
      rcases List.mem_append.1 hq with hq|hq
      · exact hp q hq
      · rw [List.mem_singleton] at hq;subst hq;exact hP
    · refine ev_neg hP (ev_now ?_)
      cases e:deskB u s w a with
      |false=>rfl
      |true=>exact absurd (((deskB_iff u s w a).1 e).1 c hca) hP
theorem srow_loop (l:List Int) (hl:l.length≤3) (hv:∀x ∈ l,0≤x∧x≤10) (hne:l≠[]):∀(suf pre:List Int) (acc:Tx),l=pre++suf→pre≠[]→acc.length≤100*pre.length →
    Ev (fun k=>spec_l15Row.l0 k l (ba acc) (pre.length:Int)) (ba (acc++tailT suf)):=by
  intro suf
  induction suf with
  |nil =>
    intro pre acc h hp _
    rw [List.append_nil] at h
    subst h
    have:0<l.length:=List.length_pos_iff.2 hne
    refine ev_suc ?_
    simp only [spec_l15Row.l0]
    exact ev_neg (by omega) (ev_neg (by omega) (ev_eq (Ev.now _) (by simp [tailT])))
  |cons x t ih =>
    intro pre acc h hp ha
    have e:l.length=pre.length+(t.length+1):=by rw [h];simp
    have hx:rd l (pre.length:Int)=x:=by rw [h];exact rd_at _ _ _
    have hxv:=hv x (by rw [h];simp)
    have hpp:0<pre.length:=List.length_pos_iff.2 hp
    obtain ⟨_,n1,n2⟩:=numT_bytes (n:=x) (by omega) (by omega)
    refine ev_suc ?_
    simp only [spec_l15Row.l0,hx]
    refine ev_pos (by omega) (ev_pos (by omega) (ev_pos (by rw [ba_size];omega) (ev_pos (by omega) (ev_bind (l1Number_ev hxv.1 (by omega)) ?_))))
    rw [litb,ba_append,ba_append,ba_size,ba_size]
    refine ev_pos (by simp;omega) ?_
    rw [w64 (by omega) (by omega),len_at pre x]
    refine ev_eq (ih (pre++[x]) _ (by rw [h];simp) (by simp) (by simp;omega)) ?_
    simp [tailT]
theorem srow_ev (l:List Int) (h1:1≤l.length) (hl:l.length≤3) (hv:∀x ∈ l,0≤x∧x≤10):Ev (fun k=>spec_l15Row.f k l) (ba (rowT l)):=by
  match l,h1 with
  |x :: t,_ =>
    have hxv:=hv x (by simp)
    obtain ⟨_,n1,n2⟩:=numT_bytes (n:=x) (by omega) (by omega)
    unfold spec_l15Row.f
    have hx:rd (x :: t) 0=x:=by simp [rd]
    refine ev_suc ?_
    simp only [spec_l15Row.l0,hx]
    refine ev_pos (by simp<;>omega) (ev_neg (by omega) (ev_pos (by omega) (ev_bind (l1Number_ev hxv.1 (by omega)) ?_)))
    rw [litb,ba_append,ba_size,ba_size]
    refine ev_pos (by simp;omega) ?_
    rw [w64 (by omega) (by omega)]
    have:=srow_loop (x :: t) hl hv (by simp) t [x] (numT x) rfl (by simp) (by simp;omega)
    simpa [rowT] using this
theorem abc_ev {c:Int} (h:0≤c∧c<3):(ba [97,98,99]).extract c.toNat (c+1).toNat=ba [letT c]:=by
  rw [ba_extract]
  obtain ⟨m,rfl⟩:=Int.eq_ofNat_of_zero_le h.1
  have:m=0∨m=1∨m=2:=by omega
  rcases this with rfl|rfl|rfl<;>rfl
theorem splace_end (u:List Int) (s:Int) (w:List Int) (x:Tx) (h:placeB u s w=true) (hx:x.length≤7) :
    Ev (fun k=>(spec_l15Row.f k u).bind fun t1=>if t1.size+1≤9223372036854775807 then (spec_l15Step.f k s).bind fun t2=>if (t1++(⟨#[32]⟩:ByteArray)).size+t2.size≤9223372036854775807 then if ((t1++(⟨#[32]⟩:ByteArray))++t2).size+1≤9223372036854775807 then if (((t1++(⟨#[32]⟩:ByteArray))++t2)++(⟨#[32]⟩:ByteArray)).size+(ba x).size≤9223372036854775807 then some ((((t1++(⟨#[32]⟩:ByteArray))++t2)++(⟨#[32]⟩:ByteArray))++ba x) else none else none else none else none)
      (ba (rowT u++32 :: (numT s++32 :: x))):=by
  obtain ⟨a1,a2,a3,a4,a5,_,_⟩:=place_data h
  have hr:=rowT_len u a1
  obtain ⟨_,n1,n2⟩:=numT_bytes (n:=s) (by omega) (by omega)
  refine ev_bind (srow_ev u a2 a3 a1) (ev_pos (by rw [ba_size];omega) (ev_bind (l15Step_ev (by omega) (by omega)) ?_))
  simp only [litb,ba_append,ba_size]
  refine ev_pos (by simp;omega) (ev_pos (by simp;omega) (ev_pos (by simp;omega) (ev_eq (Ev.now _) ?_)))
  simp
theorem splacew_loop (u:List Int) (s:Int) (w:List Int) (h:placeB u s w=true):∀(suf pre:List Int) (x:Tx),w=pre++suf→pre≠[]→x=pre.map letT →
    Ev (fun k=>spec_PlaceText.l0 k (ba x) (pre.length:Int) u s w) (ba (rowT u++32 :: (numT s++32 :: (w.map letT)))):=by
  obtain ⟨_,_,_,_,_,hw,hl⟩:=place_data h
  intro suf
  induction suf with
  |nil =>
    intro pre x e hp hx
    rw [List.append_nil] at e
    subst e
    refine ev_suc ?_
    simp only [spec_PlaceText.l0]
    refine ev_neg (by omega) ?_
    subst hx
    exact splace_end u s w _ h (by simp;omega)
  |cons c t ih =>
    intro pre x e hp hx
    have el:w.length=pre.length+(t.length+1):=by rw [e];simp
    have hc:rd w (pre.length:Int)=c:=by rw [e];exact rd_at _ _ _
    have hcv:=hw c (by rw [e];simp)
    have hpp:0<pre.length:=List.length_pos_iff.2 hp
    refine ev_suc ?_
    simp only [spec_PlaceText.l0,hc,litb]
    rw [w64 (n:=c+1) (by omega) (by omega),abc_ev hcv]
    refine ev_pos (by omega) (ev_neg (by omega) (ev_pos (by omega) (ev_pos hcv.1 (ev_pos (by omega) (ev_pos (by omega) (ev_pos ?_ ?_))))))
    · rw [ba_size,ba_size,hx];simp;omega
    · rw [w64 (by omega) (by omega),len_at pre c,ba_append]
      exact ih (pre++[c]) _ (by rw [e];simp) (by simp) (by rw [hx];simp)
theorem splacet_ev (u:List Int) (s:Int) (w:List Int) (hu:(u.length:Int)≤1000000000000) (hw:(w.length:Int)≤1000000000000):Ev (fun k=>spec_PlaceText.f k u s w) (ba (placeT u s w)):=by
  unfold spec_PlaceText.f placeT
  refine ev_bind (specPlace_ev u s w hu hw) ?_
  by_cases h:placeB u s w=true
  case neg=>rw [if_neg h];exact ev_neg h (Ev.now _)
  rw [if_pos h]
  refine ev_pos h ?_
  obtain ⟨_,_,_,_,_,hwv,hl⟩:=place_data h
  rcases w with _|⟨c,t⟩
  ·
    refine ev_suc ?_
    simp only [spec_PlaceText.l0,wordT,litb]
    exact ev_neg (by simp) (splace_end u s [] [46] h (by simp))
  ·
    have hcv:=hwv c (by simp)
    have hc:rd (c :: t) 0=c:=by simp [rd]
    refine ev_suc ?_
    simp only [spec_PlaceText.l0,hc,litb,wordT]
    rw [w64 (n:=c+1) (by omega) (by omega),abc_ev hcv]
    refine ev_pos (by simp<;>omega) (ev_pos trivial (ev_pos (by omega) (ev_pos hcv.1 (ev_pos (by omega) (ev_pos (by omega) (ev_pos (by rw [ba_size];simp) ?_))))))
    rw [w64 (by omega) (by omega),ba_append]
    have:=splacew_loop u s (c :: t) h t [c] [letT c] rfl (by simp) rfl
    simpa using this
theorem l15Place_eq (u:List Int) (s:Int) (w:List Int) (hu:(u.length:Int)≤1000000000000) (hw:(w.length:Int)≤1000000000000):spec_l15Place.f u s w=some (u,s,w):=by
  unfold spec_l15Place.f
  simp only [Option.bind_some,List.nil_append,List.length_nil]
  rw [if_pos (by omega),if_pos (by omega)]
theorem specNew_ev (u:List Int) (s:Int) (w:List Int) (hu:(u.length:Int)≤1000000000000) (hw:(w.length:Int)≤1000000000000) :
    Ev (fun k=>spec_DeskNew.f k u s w) (if placeB u s w=true then (u,s,w,[],true) else ([],0,[],[],false)):=by
  simp only [spec_DeskNew.f]
  refine ev_bind (specPlace_ev u s w hu hw) ?_
  by_cases h:placeB u s w=true
  · simp only [if_pos h,l15Place_eq u s w hu hw,Option.bind_some]
    exact Ev.now _
  · simp only [if_neg h]
    exact Ev.now _
theorem sputinj_ev (u:List Int) (a b:Int) (t:Bool) (hu:(u.length:Int)≤1000000) (h:t=false→0≤a∧a<(u.length:Int)) :
    ∃r,Ev (fun k=>spec_PutIn.j0 k u a b t) r∧r.1.length≤u.length:=by
  cases t with
  |true =>
    refine ⟨([],false),ev_suc ?_,by simp⟩
    simp only [spec_PutIn.j0]
    exact ev_pos (by simp) (Ev.now _)
  |false =>
    obtain ⟨h1,h2⟩:=h rfl
    by_cases hq:urnB (([]++u).set a.toNat (wrap64 (rd ([]++u) a+b)))=true
    · refine ⟨(([]++u).set a.toNat (wrap64 (rd ([]++u) a+b)),true),ev_suc ?_,?_⟩
      · simp only [spec_PutIn.j0]
        exact ev_neg (by simp) (ev_bind (Ev.now _) (ev_pos (by simp;omega) (ev_bind (Ev.now _) (ev_pos h1 (ev_pos (by simpa using h2) (ev_bind (Ev.now _) (ev_bind (specUrnOk_ev _ (by simp;omega)) (ev_pos hq (Ev.now _)))))))))
      · simp
    · refine ⟨([],false),ev_suc ?_,by simp⟩
      simp only [spec_PutIn.j0]
      exact ev_neg (by simp) (ev_bind (Ev.now _) (ev_pos (by simp;omega) (ev_bind (Ev.now _) (ev_pos h1 (ev_pos (by simpa using h2) (ev_bind (Ev.now _) (ev_bind (specUrnOk_ev _ (by simp;omega)) (ev_neg hq (Ev.now _)))))))))
theorem sputin_ev (u:List Int) (a b:Int) (hu:(u.length:Int)≤1000000):∃r,Ev (fun k=>spec_PutIn.f k u a b) r∧r.1.length≤u.length:=by
  unfold spec_PutIn.f
  by_cases h:urnB u=true
  · by_cases ha:0≤a∧a≤wrap64 ((u.length:Int) - 1)
    · rw [w64 (by omega) (by omega)] at ha
      obtain ⟨r,hr,hl⟩:=sputinj_ev u a b (!(decide (-40≤b) && decide (b≤40))) hu (fun _=>by omega)
      refine ⟨r,ev_bind (specUrnOk_ev u (by omega)) (ev_pos h ?_),hl⟩
      rw [l1In_eq,w64 (by omega) (by omega)]
      refine ev_bind (Ev.now _) (ev_pos (by simp;omega) ?_)
      rw [l1In_eq]
      exact ev_bind (Ev.now _) hr
    · obtain ⟨r,hr,hl⟩:=sputinj_ev u a b true hu (fun h=>by cases h)
      refine ⟨r,ev_bind (specUrnOk_ev u (by omega)) (ev_pos h ?_),hl⟩
      rw [l1In_eq]
      exact ev_bind (Ev.now _) (ev_neg (by simp;omega) hr)
  · obtain ⟨r,hr,hl⟩:=sputinj_ev u a b true hu (fun h=>by cases h)
    exact ⟨r,ev_bind (specUrnOk_ev u (by omega)) (ev_neg h hr),hl⟩
theorem smade_ev (u:List Int) (s:Int) (w:List Int) (a b c:Int) (hu:(u.length:Int)≤1000000) (hw:(w.length:Int)≤1000000) :
    ∃v,Ev (fun k=>spec_l15Made.f k u s w a b c) v∧v.1.length≤u.length∧v.2.2.length≤w.length+1:=by
  have hj1:∀t:Bool,∃v,Ev (fun k=>spec_l15Made.j1 k t u s w a b c u s w) v∧v.1.length≤u.length∧v.2.2.length≤w.length+1:=by
    intro t
    cases t with
    |true =>
      refine ⟨(u,b,w),ev_suc ?_,by simp,by simp⟩
      simp only [spec_l15Made.j1]
      exact ev_pos (by simp) (Ev.now _)
    |false =>
      by_cases h2:(a == 2 && (c == 0))=true
      · refine ⟨(u,s,w++[b]),ev_suc ?_,by simp,by simp⟩
        simp only [spec_l15Made.j1]
        exact ev_neg (by simp) (ev_pos h2 (ev_pos (by omega) (Ev.now _)))
      by_cases h3:(a == 3 && (b == 0 && (c == 0)))=true
      · refine ⟨(u,s,[]),ev_suc ?_,by simp,by simp⟩
        simp only [spec_l15Made.j1]
        exact ev_neg (by simp) (ev_neg h2 (ev_pos h3 (Ev.now _)))
      · refine ⟨([],0,[]),ev_suc ?_,by simp,by simp⟩
        simp only [spec_l15Made.j1]
        exact ev_neg (by simp) (ev_neg h2 (ev_neg h3 (Ev.now _)))
  have hj0:∀t:Bool,∃v,Ev (fun k=>spec_l15Made.j0 k t u s w a b c u s w) v∧v.1.length≤u.length∧v.2.2.length≤w.length+1:=by
    intro t
    cases t with
    |true =>
      obtain ⟨r,hr,hl⟩:=sputin_ev u b c hu
      refine ⟨(r.1,s,[]),ev_suc ?_,hl,by simp⟩
      simp only [spec_l15Made.j0]
      exact ev_pos (by simp) (ev_bind hr (Ev.now _))
    |false =>
      by_cases h1:(a == 1 && (c == 0))=true
      · obtain ⟨v,hv,hl⟩:=hj1 ((w.length:Int) == 0)
        refine ⟨v,ev_suc ?_,hl⟩
        simp only [spec_l15Made.j0]
        exact ev_neg (by simp) (ev_pos h1 hv)
      · obtain ⟨v,hv,hl⟩:=hj1 false
        refine ⟨v,ev_suc ?_,hl⟩
        simp only [spec_l15Made.j0]
        exact ev_neg (by simp) (ev_neg h1 hv)
  unfold spec_l15Made.f
  rw [l15Place_eq u s w (by omega) (by omega)]
  by_cases h0:(a == 0)=true
  · obtain ⟨v,hv,hl⟩:=hj0 ((w.length:Int) == 0)
    exact ⟨v,ev_bind (Ev.now _) (ev_pos h0 hv),hl⟩
  · obtain ⟨v,hv,hl⟩:=hj0 false
    exact ⟨v,ev_bind (Ev.now _) (ev_neg h0 hv),hl⟩
theorem l15Copy_loop (u:List Int) (s:Int) (w:List Int) (a:List S30) (hl:a.length≤1000) (hA:∀q ∈ a,Sized1 q):∀(x p:List S30),a=p++x →
    Ev (fun k=>spec_l15Copy.l0 k (p.length:Int) u s w a u s w p) (u,s,w,a):=by
  intro x
  induction x with
  |nil =>
    intro p h
    rw [List.append_nil] at h
    subst h
    refine ev_suc ?_
    simp only [spec_l15Copy.l0]
    exact ev_neg (by omega) (Ev.now _)
  |cons q t ih =>
    intro p h
    have e:a.length=p.length+(t.length+1):=by rw [h];simp
    have hq:rd_T30 a (p.length:Int)=q:=by rw [h];exact rdP_at _ _ _
    have hs:=hA q (by rw [h];simp)
    refine ev_suc ?_
    simp only [spec_l15Copy.l0,hq]
    refine ev_pos (by omega) (ev_pos (by omega) ?_)
    rw [l15Place_eq q.f0 q.f1 q.f2 hs.1 hs.2]
    refine ev_bind (Ev.now _) (ev_pos (by omega) ?_)
    rw [w64 (by omega) (by omega)]
    have:=ih (p++[q]) (by rw [h];simp)
    have e2:((p++[q]).length:Int)=(p.length:Int)+1:=by simp
    rw [e2] at this
    exact this
theorem l15Copy_ev (u:List Int) (s:Int) (w:List Int) (a:List S30) (hu:(u.length:Int)≤1000000) (hw:(w.length:Int)≤1000000) (hl:a.length≤1000) (hA:∀q ∈ a,Sized1 q) :
    Ev (fun k=>spec_l15Copy.f k u s w a) (u,s,w,a):=by
  unfold spec_l15Copy.f
  rw [l15Place_eq u s w (by omega) (by omega)]
  exact ev_bind (Ev.now _) (l15Copy_loop u s w a hl hA a [] rfl)
abbrev Fit (u:List Int) (w:List Int) (a:List S30):Prop:=u.length≤3∧w.length≤10∧a.length≤8∧∀q ∈ a,q.f0.length≤3∧q.f2.length≤10
theorem sdeskdo_ev (u:List Int) (s:Int) (w:List Int) (a:List S30) (x y z:Int) (hF:Fit u w a) :
    ∃v,Ev (fun k=>spec_DeskDo.f k u s w a x y z) v∧Fit v.1 v.2.2.1 v.2.2.2.1:=by
  obtain ⟨f1,f2,f3,f4⟩:=hF
  have hA:∀q ∈ a,Sized1 q:=fun q hq=>by have:=f4 q hq;exact ⟨by omega,by omega⟩
  have hD:Ev (fun k=>spec_DeskOk.f k u s w a) (deskB u s w a):=by
    unfold spec_DeskOk.f
    exact specDesk_loop u s w a (by omega) (by omega) (by omega) hA _ [] rfl (by simp)
  by_cases hd:deskB u s w a=true
  · obtain ⟨d1,d2,d3⟩:=(deskB_iff _ _ _ _).1 hd
    obtain ⟨_,_,_,_,_,_,p7⟩:=place_data d2
    have hC:=l15Copy_ev u s w a (by omega) (by omega) (by omega) hA
    have hj1:∀(t:Bool) (u':List Int) (s':Int) (w':List Int),u'.length≤3→w'.length≤10→∃v,Ev (fun k=>spec_DeskDo.j1 k t u s w a u' s' w') v∧Fit v.1 v.2.2.1 v.2.2.2.1:=by
      intro t u' s' w' g1 g2
      cases t with
      |true =>
        refine ⟨(u,s,w,a,false),ev_suc ?_,f1,f2,f3,f4⟩
        simp only [spec_DeskDo.j1]
        exact ev_pos (by simp) (Ev.now _)
      |false =>
        have hm:∀q ∈ a++[(⟨u,s,w⟩:S30)],q.f0.length≤3∧q.f2.length≤10:=by
          intro q hq
          rcases List.mem_append.1 hq with hq|hq
          · exact f4 q hq
          · obtain rfl:=List.mem_singleton.1 hq
            exact ⟨f1,f2⟩
        by_cases h8:((a++[(⟨u,s,w⟩:S30)]).length:Int)>8
        · refine ⟨(u',s',w',(a++[(⟨u,s,w⟩:S30)]).drop (1:Int).toNat,true),ev_suc ?_,g1,g2,by simp;omega,fun q hq=>hm q (List.mem_of_mem_drop hq)⟩
          simp only [spec_DeskDo.j1]
          exact ev_neg (by simp) (ev_pos (by omega) (ev_bind (Ev.now _) (ev_pos h8 (ev_pos (by omega) (Ev.now _)))))
        · refine ⟨(u',s',w',a++[(⟨u,s,w⟩:S30)],true),ev_suc ?_,g1,g2,by simp at h8 ⊢;omega,hm⟩
          simp only [spec_DeskDo.j1]
          exact ev_neg (by simp) (ev_pos (by omega) (ev_bind (Ev.now _) (ev_neg h8 (Ev.now _))))
    have hj0:∀t:Bool,(t=true→0<a.length)→∃v,Ev (fun k=>spec_DeskDo.j0 k t u s w a x y z u s w a) v∧Fit v.1 v.2.2.1 v.2.2.2.1:=by
      intro t ht
      cases t with
      |true =>
        have h0:=ht rfl
        obtain ⟨p,q,hpq⟩:∃p q,a=p++[q]:=by
          rcases List.eq_nil_or_concat a with h|⟨p,q,h⟩
          · rw [h] at h0;simp at h0
          · exact ⟨p,q,by simpa using h⟩
        have e:a.length=p.length+1:=by rw [hpq];simp
        have ew:wrap64 ((a.length:Int) - 1)=(p.length:Int):=by rw [w64 (by omega) (by omega)];omega
        have hq:rd_T30 a (p.length:Int)=q:=by rw [hpq];exact rdP_at _ _ _
        have fq:=f4 q (by rw [hpq];simp)
        refine ⟨(q.f0,q.f1,q.f2,a.take (p.length:Int).toNat,true),ev_suc ?_,fq.1,fq.2,by simp;omega,fun r hr=>f4 r (List.mem_of_mem_take hr)⟩
        simp only [spec_DeskDo.j0,ew,hq]
        exact ev_pos (by simp) (ev_pos (by omega) (ev_pos (by omega) (ev_pos (by omega) (Ev.now _))))
      |false =>
        obtain ⟨v,hv,l1,l2⟩:=smade_ev u s w x y z (by omega) (by omega)
        have hP:=specPlace_ev v.1 v.2.1 v.2.2 (by omega) (by omega)
        by_cases hp:placeB v.1 v.2.1 v.2.2=true
        · obtain ⟨r,hr,hf⟩:=hj1 ((ba (placeT v.1 v.2.1 v.2.2)).toList == (ba (placeT u s w)).toList) v.1 v.2.1 v.2.2 (by omega) (by omega)
          refine ⟨r,ev_suc ?_,hf⟩
          simp only [spec_DeskDo.j0]
          exact ev_neg (by simp) (ev_bind hv (ev_bind hP (ev_pos hp (ev_bind (splacet_ev _ _ _ (by omega) (by omega)) (ev_bind (splacet_ev u s w (by omega) (by omega)) hr)))))
        · obtain ⟨r,hr,hf⟩:=hj1 true v.1 v.2.1 v.2.2 (by omega) (by omega)
          refine ⟨r,ev_suc ?_,hf⟩
          simp only [spec_DeskDo.j0]
          exact ev_neg (by simp) (ev_bind hv (ev_bind hP (ev_neg hp hr)))
    unfold spec_DeskDo.f
    by_cases h4:(x == 4 && (y == 0 && (z == 0)))=true
    · obtain ⟨v,hv,hf⟩:=hj0 (decide ((a.length:Int)>0)) (fun h=>by simp at h;omega)
      exact ⟨v,ev_bind hD (ev_pos hd (ev_bind hC (ev_pos h4 hv))),hf⟩
    · obtain ⟨v,hv,hf⟩:=hj0 false (fun h=>by cases h)
      exact ⟨v,ev_bind hD (ev_pos hd (ev_bind hC (ev_neg h4 hv))),hf⟩
  · refine ⟨([],0,[],[],false),?_,by simp [Fit]⟩
    unfold spec_DeskDo.f
    exact ev_bind hD (ev_neg hd (Ev.now _))
/-- What a drawn desk is like. -/
abbrev DFit (u w:List Int) (a:List S30):Prop:=u.length≤3∧w.length≤10∧a.length≤9∧∀q ∈ a,q.f0.length≤3∧q.f2.length≤10
theorem drawDesk2_loop {b:List Int} (hb:BytesOk b) (n:Int) (hn:1≤n∧n≤1000):∀(j:Nat),j≤5→∀(p:Int),0≤p→p≤1000*(10 - (j:Int))→∀(u:List Int) (s:Int) (w:List Int) (a:List S30),Fit u w a →
    ∃v,Ev (fun k=>spec_l20Desk.l0 k n (j:Int) b p u s w a) v∧DFit v.1 v.2.2.1 v.2.2.2.1∧p≤v.2.2.2.2∧v.2.2.2.2≤p+8*((j:Int)+1):=by
  intro j
  induction j with
  |zero =>
    intro _ p h0 hp u s w a hF
    obtain ⟨f1,f2,f3,f4⟩:=hF
    obtain ⟨r,hr⟩:=odd_ev hb p n h0 (by omega) (by omega) hn.1
    cases r with
    |false =>
      refine ⟨(u,s,w,a,p+1),ev_suc ?_,⟨f1,f2,by simp only;omega,f4⟩,by simp only;omega,by simp only;omega⟩
      simp only [spec_l20Desk.l0]
      exact ev_neg (by simp) (ev_bind hr (ev_neg (by simp) (Ev.now _)))
    |true =>
      obtain ⟨c,hc,_⟩:=pick_ev hb (p+1) 3 (by omega) (by omega) (by omega)
      by_cases c0:c=0
      · refine ⟨(u,4,w,a,p+1+1),ev_suc ?_,⟨f1,f2,by simp only;omega,f4⟩,by simp only;omega,by simp only;omega⟩
        simp only [spec_l20Desk.l0]
        exact ev_neg (by simp) (ev_bind hr (ev_pos rfl (ev_bind hc (ev_pos c0 (Ev.now _)))))
      by_cases c1:c=1
      · refine ⟨(u,s,w,a++[⟨[],0,[]⟩],p+1+1),ev_suc ?_,⟨f1,f2,by simp;omega,?_⟩,by simp only;omega,by simp only;omega⟩
        · simp only [spec_l20Desk.l0]
          exact ev_neg (by simp) (ev_bind hr (ev_pos rfl (ev_bind hc (ev_neg c0 (ev_pos c1 (ev_pos (by omega) (Ev.now _)))))))
        · intro q hq
          rcases List.mem_append.1 hq with hq|hq
          · exact f4 q hq
          · obtain rfl:=List.mem_singleton.1 hq
            exact ⟨by simp,by simp⟩
      · refine ⟨([],0,[],[],p+1+1),ev_suc ?_,⟨by simp,by simp,by simp,by simp⟩,by simp only;omega,by simp only;omega⟩
        simp only [spec_l20Desk.l0]
        exact ev_neg (by simp) (ev_bind hr (ev_pos rfl (ev_bind hc (ev_neg c0 (ev_neg c1 (Ev.now _))))))
  |succ j ih =>
    intro hj p h0 hp u s w a hF
    obtain ⟨d,hd,d1,d2⟩:=drawDeed_ev hb p h0 (by omega) u s w hF.1
    obtain ⟨v,hv,hf⟩:=sdeskdo_ev u s w a d.1 d.2.1 d.2.2.1 hF
    have ew:wrap64 (((j+1:Nat):Int) - 1)=(j:Int):=by rw [w64 (by omega) (by omega)];omega
    by_cases ho:v.2.2.2.2=true
    · obtain ⟨r,hr,hh,q1,q2⟩:=ih (by omega) d.2.2.2 (by omega) (by omega) v.1 v.2.1 v.2.2.1 v.2.2.2.1 hf
      refine ⟨r,ev_suc ?_,hh,by omega,by omega⟩
      simp only [spec_l20Desk.l0,ew]
      exact ev_pos (by omega) (ev_bind hd (ev_bind hv (ev_pos ho hr)))
    · obtain ⟨r,hr,hh,q1,q2⟩:=ih (by omega) d.2.2.2 (by omega) (by omega) u s w a hF
      refine ⟨r,ev_suc ?_,hh,by omega,by omega⟩
      simp only [spec_l20Desk.l0,ew]
      exact ev_pos (by omega) (ev_bind hd (ev_bind hv (ev_neg ho hr)))
theorem drawDesk2_ev {b:List Int} (hB:BytesOk b) (n:Int) (hn:1≤n∧n≤1000) :
    ∃v,Ev (fun k=>spec_l20Desk.f k b 0 n) v∧DFit v.1 v.2.2.1 v.2.2.2.1∧0≤v.2.2.2.2∧v.2.2.2.2≤1000:=by
  obtain ⟨u,s,w,p',hd,h1,h2,h3,h4,h5,h6,_⟩:=drawPlace_ev hB 0 0 ⟨by omega,by omega⟩ (by omega) (by omega)
  obtain ⟨c,hc,c0,c1,_⟩:=pick_ev hB p' 5 (by omega) (by omega) (by omega)
  have c5:=c1 (by omega)
  have hN:=specNew_ev u s w (by omega) (by omega)
  obtain ⟨g,hg,hF⟩:∃g,Ev (fun k=>spec_DeskNew.f k u s w) g∧Fit g.1 g.2.2.1 g.2.2.2.1:=by
    by_cases hp:placeB u s w=true
    · rw [if_pos hp] at hN
      exact ⟨_,hN,by simp only;omega,by simp only;omega,by simp,by simp⟩
    · rw [if_neg hp] at hN
      exact ⟨_,hN,by simp [Fit]⟩
  obtain ⟨j,rfl⟩:∃j:Nat,c=(j:Int):=⟨c.toNat,by omega⟩
  obtain ⟨v,hv,v1,v2,v3⟩:=drawDesk2_loop hB n hn j (by omega) (p' + 1) (by omega) (by omega) g.1 g.2.1 g.2.2.1 g.2.2.2.1 hF
  refine ⟨v,?_,v1,by omega,by omega⟩
  unfold spec_l20Desk.f
  exact ev_bind hd (ev_bind hg (ev_bind hc hv))
theorem dfit_sized {u w:List Int} {a:List S30} (h:DFit u w a):(u.length:Int)≤1000000∧(w.length:Int)≤1000000∧(a.length:Int)≤1000000∧∀q ∈ a,Sized1 q:=by
  obtain ⟨f1,f2,f3,f4⟩:=h
  exact ⟨by omega,by omega,by omega,fun q hq=>⟨by have:=(f4 q hq).1;omega,by have:=(f4 q hq).2;omega⟩⟩
theorem drawDeskRun_ev {l:List Int} (hw:∀x ∈ l,(Lit.int .u8 x).wf=true):∃(u:List Int) (s:Int) (w:List Int) (a:List S30) (ds:List S41),Ev (fun k=>spec_DrawDeskRun.f k l) (u,s,w,a,ds)∧DFit u w a:=by
  obtain ⟨b,hb,hB⟩:=open_ev hw
  obtain ⟨⟨u,s,w,a,p⟩,hv,v1,v2,v3⟩:=drawDesk2_ev hB 12 ⟨by omega,by omega⟩
  simp only at v1 v2 v3
  obtain ⟨r,hr⟩:=odd_ev hB p 30 v2 (by omega) (by omega) (by omega)
  simp only [spec_DrawDeskRun.f,hb]
  cases r with
  |true=>exact ⟨u,s,w,a,_,ev_bind (Ev.now _) (ev_bind hv (ev_bind hr (ev_pos rfl (ev_pos (by omega) (Ev.now _))))),v1⟩
  |false =>
    obtain ⟨ds,q,hd,_⟩:=drawDeeds_ev hB u s w v1.1 (p+1) (by omega) (by omega)
    exact ⟨u,s,w,a,ds,ev_bind (Ev.now _) (ev_bind hv (ev_bind hr (ev_neg (by simp) (ev_bind hd (Ev.now _))))),v1⟩
def sumL:List Tx→Nat
  | []=>0
  |p :: t=>p.length+1+sumL t
theorem cutA_sum (c:UInt8):∀(s acc:Tx),sumL (cutA c acc s)=acc.length+s.length+1
  | [],acc=>by simp [cutA,sumL]
  |b :: s,acc=>by
    unfold cutA
    split
    · simp [sumL,cutA_sum c s []];omega
    · rw [cutA_sum c s];simp;omega
theorem rjL_le:∀(ps:List Tx) (ds:List (Int×Int×Int)) (n:Nat),1≤ps.length→(rjL ps ds n).2+1≤n+sumL ps
  |p :: q :: t,ds,n,_=>by
    rw [rjL]
    split
    · have:=rjL_le (q :: t) (ds++[((readD p).1,(readD p).2.1,(readD p).2.2.1)]) (n+p.length+1) (by simp)
      simp only [sumL] at this ⊢;omega
    · simp only [sumL];omega
  | [p],ds,n,_=>by simp only [rjL,sumL];omega
  | [],_,_,h=>by simp at h
theorem readJ_le (x:Tx):(readJ x).2≤x.length:=by
  have h1:=rjL_le (cutA 10 [] x) [] 0 (cutA_pos 10 x [])
  rw [cutA_sum] at h1
  unfold readJ
  simp at h1 ⊢;omega
theorem rjL_acc:∀(l:List Tx) (ds:List (Int×Int×Int)) (n:Nat),rjL l ds n=(ds++(rjL l [] 0).1,n+(rjL l [] 0).2)
  | [],ds,n=>by simp [rjL]
  | [_],ds,n=>by simp [rjL]
  |p :: q :: t,ds,n=>by
    rw [rjL,rjL]
    split
    · rw [rjL_acc (q :: t) (ds++_),rjL_acc (q :: t) ([]++_)]
      simp only [List.nil_append,List.append_assoc,Prod.mk.injEq,true_and]
      omega
    · simp
theorem readJ_none {s:Tx} (h:(10:UInt8) ∉ s):readJ s=([],0):=by
  unfold readJ
  rw [cutA_none s [] h]
  simp [rjL]
theorem readJ_cons {p s:Tx} (h:(10:UInt8) ∉ p):readJ (p++10 :: s)=if (readD p).2.2.2=true then (((readD p).1,(readD p).2.1,(readD p).2.2.1) :: (readJ s).1,p.length+1+(readJ s).2) else ([],0):=by
  unfold readJ
  rw [cutA_hit p [] s h,List.nil_append,rjL_cut]
  split
  · rw [rjL_acc];simp
  · rfl
theorem line_cases (s:Tx):(10:UInt8) ∉ s∨∃p r,s=p++10 :: r∧(10:UInt8) ∉ p:=by
  rcases index_one 10 s with ⟨_,h⟩|⟨l,r,h1,h2,_⟩
  · exact .inl h
  · exact .inr ⟨l,r,h1,h2⟩
theorem take_line (p r:Tx) (m:Nat):(p++10 :: r).take (p.length+1+m)=p++10 :: r.take m:=by
  rw [List.take_append,List.take_of_length_le (by omega),show p.length+1+m - p.length=m+1 by omega,List.take_succ_cons]
/-- What is read is a journal's text. -/
theorem readJ_text:∀(n:Nat) (y:Tx),y.length≤n→(∀d ∈ (readJ y).1,deedT d.1 d.2.1 d.2.2≠[])∧y.take (readJ y).2=bodyT (readJ y).1∧(readJ y).2≤y.length:=by
  intro n
  induction n with
  |zero =>
    intro y hy
    obtain rfl:=List.eq_nil_of_length_eq_zero (Nat.le_zero.1 hy)
    rw [readJ_none (by simp)]
    simp [bodyT]
  |succ n ih =>
    intro y hy
    rcases line_cases y with h|⟨p,r,rfl,h⟩
    · rw [readJ_none h];simp [bodyT]
    · rw [readJ_cons h]
      rcases readD_cases p with ⟨k,a,b,e1,e2,e3⟩|e1
      · rw [e1]
        obtain ⟨h1,h2,h3⟩:=ih r (by simp at hy;omega)
        simp only [if_true]
        refine ⟨fun d hd=>?_,?_,?_⟩
        · rcases List.mem_cons.1 hd with rfl|hd
          · rw [e2];exact e3
          · exact h1 d hd
        · rw [take_line,bodyT,e2,h2]
        · simp;omega
      · rw [e1];simp [bodyT]
theorem readJ_deeds (y:Tx):∀d ∈ (readJ y).1,deedT d.1 d.2.1 d.2.2≠[]:=(readJ_text _ y (Nat.le_refl _)).1
theorem readJ_part (y:Tx):y.take (readJ y).2=bodyT (readJ y).1∧(bodyT (readJ y).1).length=(readJ y).2:=by
  obtain ⟨_,h2,h3⟩:=readJ_text _ y (Nat.le_refl _)
  refine ⟨h2,?_⟩
  rw [←h2,List.length_take]
  omega
/-- Of a beginning of a text the first ones of its deeds are read. -/
theorem readJ_take:∀(n:Nat) (y:Tx) (m:Nat),y.length≤n→∃i,(readJ (y.take m)).1=(readJ y).1.take i:=by
  intro n
  induction n with
  |zero =>
    intro y m hy
    obtain rfl:=List.eq_nil_of_length_eq_zero (Nat.le_zero.1 hy)
    exact ⟨0,by rw [List.take_nil,readJ_none (by simp)];rfl⟩
  |succ n ih =>
    intro y m hy
    rcases line_cases y with h|⟨p,r,rfl,h⟩
    · exact ⟨0,by rw [readJ_none (fun hm=>h (List.mem_of_mem_take hm))];rfl⟩
    · by_cases hm:m≤p.length
      · refine ⟨0,?_⟩
        rw [List.take_append_of_le_length hm,readJ_none (fun hx=>h (List.mem_of_mem_take hx))]
        rfl
      · obtain ⟨j,rfl⟩:∃j,m=p.length+1+j:=⟨m - p.length - 1,by omega⟩
        obtain ⟨i,hi⟩:=ih r j (by simp at hy;omega)
        rw [take_line,readJ_cons h,readJ_cons h]
        split
        · exact ⟨i+1,by simp only [hi,List.take_succ_cons]⟩
        · exact ⟨0,rfl⟩
theorem isplit_ev (c:UInt8) (l:Tx) (hl:l.length≤4000000000):strings_Split.f (ba l) (ba [c])=some ((cutA c [] l).map ba):=by
  unfold strings_Split.f
  rw [if_pos ⟨by rw [ba_size];omega,by simp⟩,split_cut]
theorem rdOf_map (l:List Tx) (i:Int):rdOf ByteArray.empty (l.map ba) i=ba (l.getD i.toNat []):=by
  unfold rdOf
  rw [List.getD_eq_getElem?_getD,List.getD_eq_getElem?_getD,List.getElem?_map]
  cases l[i.toNat]?<;>rfl
theorem words_small (x:Tx) (hx:x.length≤1048576):∀i,((cutA 32 [] x).getD i []).length≤1048576:=by
  have:∀(l acc:Tx) (p:Tx),p ∈ cutA 32 acc l→p.length≤acc.length+l.length:=by
    intro l
    induction l with
    |nil=>intro acc p hp;simp [cutA] at hp;subst hp;simp
    |cons b l ih =>
      intro acc p hp
      unfold cutA at hp
      split at hp
      · rcases List.mem_cons.1 hp with rfl|hp
        · simp
        · have:=ih [] p hp;simp at this ⊢;omega
      · have:=ih _ p hp;simp at this ⊢;omega
  intro i
  rw [List.getD_eq_getElem?_getD]
  cases hg:(cutA 32 [] x)[i]? with
  |none=>simp
  |some p =>
    have:=this x [] p (List.mem_of_getElem? hg)
    simp at this ⊢;omega
/-- The numbers that the library reads. -/
def numA (w:Tx):Int:=match Lib.atoiAll w with|.ok v=>v|Lib.NumEnd.syntax=>0|.range=>Lib.atoiSat w
theorem atoi_ev (w:Tx) (h:w.length≤1048576):∃e,strconv_Atoi.f (ba w)=some (numA w,e):=by
  unfold strconv_Atoi.f numA
  rw [if_pos (by rw [ba_size];omega)]
  simp only [ba_list]
  cases Lib.atoiAll w<;>exact ⟨_,rfl⟩
theorem numA_numT {n:Int} (h0 : -99≤n) (h1:n≤99):numA (numT n)=n:=by unfold numA;rw [atoi_numT h0 h1]
/-- The word's number among the five. -/
def kindOf (w:Tx):Int:=if w=putW then 0 else if w=stepW then 1 else if w=drawW then 2 else if w=againW then 3 else if w=backW then 4 else -1
theorem kind_ev (w:Tx):Ev (fun k=>slices_Index_string_string.f k [ba putW,ba stepW,ba drawW,ba againW,ba backW] (ba w)) (kindOf w):=by
  unfold slices_Index_string_string.f kindOf
  refine ev_suc ?_
  simp only [slices_Index_string_string.l0]
  refine ev_pos (by decide) (ev_pos (by decide) (ev_pos (by decide) ?_))
  simp only [rdOf,toList_ba,List.length_cons,List.length_nil,Int.toNat_zero,List.getD_cons_zero,w64 (n:=0+1) (by decide) (by decide)]
  split
  · exact Ev.now _
  refine ev_suc ?_
  simp only [slices_Index_string_string.l0]
  refine ev_pos (by decide) (ev_pos (by decide) (ev_pos (by decide) ?_))
  have t1:(0+1:Int).toNat=1:=rfl
  simp only [rdOf,toList_ba,t1,List.getD_cons_zero,List.getD_cons_succ,w64 (n:=0+1+1) (by decide) (by decide)]
  split
  · exact Ev.now _
  refine ev_suc ?_
  simp only [slices_Index_string_string.l0]
  refine ev_pos (by decide) (ev_pos (by decide) (ev_pos (by decide) ?_))
  have t2:(0+1+1:Int).toNat=2:=rfl
  simp only [rdOf,toList_ba,t2,List.getD_cons_zero,List.getD_cons_succ,w64 (n:=0+1+1+1) (by decide) (by decide)]
  split
  · exact Ev.now _
  refine ev_suc ?_
  simp only [slices_Index_string_string.l0]
  refine ev_pos (by decide) (ev_pos (by decide) (ev_pos (by decide) ?_))
  have t3:(0+1+1+1:Int).toNat=3:=rfl
  simp only [rdOf,toList_ba,t3,List.getD_cons_zero,List.getD_cons_succ,w64 (n:=0+1+1+1+1) (by decide) (by decide)]
  split
  · exact Ev.now _
  refine ev_suc ?_
  simp only [slices_Index_string_string.l0]
  refine ev_pos (by decide) (ev_pos (by decide) (ev_pos (by decide) ?_))
  have t4:(0+1+1+1+1:Int).toNat=4:=rfl
  simp only [rdOf,toList_ba,t4,List.getD_cons_zero,List.getD_cons_succ,w64 (n:=0+1+1+1+1+1) (by decide) (by decide)]
  split
  · exact Ev.now _
  refine ev_suc ?_
  simp only [slices_Index_string_string.l0]
  exact ev_neg (by decide) (Ev.now _)
theorem kindOf_lt (w:Tx):kindOf w<5:=by unfold kindOf;repeat' split<;>try omega
theorem iread_end (x:Tx) (k a b:Int) (hd:∀k' a' b',deedT k' a' b'=x→x≠[]→(k,a,b)=(k',a',b')) (hx:x≠[]) :
    (if (ba (deedT k a b)).toList=(ba x).toList then some (k,a,b,true) else some (0,0,0,false))=some (readD x):=by
  simp only [toList_ba]
  split
  · rename_i h;rw [readD_of h hx]
  · rename_i h
    rw [readD_not fun k' a' b' h'=>?_]
    by_cases h0:x=[]
    · exact h0
    · have:=hd k' a' b' h' h0
      simp only [Prod.mk.injEq] at this
      obtain ⟨rfl,rfl,rfl⟩:=this
      exact absurd h' h
theorem iread_ev (x:Tx) (hx:x.length≤1048576):Ev (fun k=>impl_ReadDeed.f k (ba x)) (readD x):=by
  have hw:=words_small x hx
  unfold impl_ReadDeed.f
  have hs:=isplit_ev 32 x (by omega)
  have e32:(⟨#[32]⟩:ByteArray)=ba [32]:=rfl
  simp only [e32,hs,Option.bind_some,List.length_map,rdOf_map]
  have hp:=cutA_pos 32 x []
  have hcut:∀{k a b:Int},deedT k a b=x→x≠[]→_:=fun {k a b} h h2=>deed_cases (k:=k) (a:=a) (b:=b) (by rw [h];exact h2)
  refine ev_pos (by omega) (ev_bind (kind_ev _) ?_)
  have t0:(0:Int).toNat=0:=rfl
  rw [t0]
  by_cases hk:kindOf ((cutA 32 [] x).getD 0 [])<0
  · refine ev_pos hk (ev_suc ?_)
    simp only [impl_ReadDeed.j0]
    refine ev_pos trivial ?_
    rw [readD_not fun k a b e=>?_]
    · exact Ev.now _
    by_cases h0:x=[]
    · exact h0
    obtain ⟨_,c⟩:=hcut e h0
    rw [e] at c
    exfalso
    rcases c with ⟨_,_,c⟩|⟨_,_,_,c⟩|⟨_,_,_,c⟩|⟨_,_,_,_,c⟩|⟨_,_,_,_,c⟩<;>rw [c,List.getD_cons_zero] at hk<;>exact absurd hk (by decide)
  refine ev_neg hk ?_
  have hx0:x≠[]:=by rintro rfl;exact hk (by decide)
  by_cases h3:((cutA 32 [] x).length:Int)>3
  · rw [decide_eq_true h3]
    refine ev_suc ?_
    simp only [impl_ReadDeed.j0]
    refine ev_pos trivial ?_
    rw [readD_not fun k a b e=>?_]
    · exact Ev.now _
    obtain ⟨_,c⟩:=hcut e hx0
    rw [e] at c
    exfalso
    rcases c with ⟨_,_,c⟩|⟨_,_,_,c⟩|⟨_,_,_,c⟩|⟨_,_,_,_,c⟩|⟨_,_,_,_,c⟩<;>rw [c] at h3<;>simp at h3
  rw [decide_eq_false h3]
  refine ev_suc ?_
  simp only [impl_ReadDeed.j0,Bool.false_eq_true,if_false,Option.bind_some,List.length_map,rdOf_map,List.length_cons,List.length_nil]
  have hk5:=kindOf_lt ((cutA 32 [] x).getD 0 [])
  have hrd:rd [0,1,2,3,4] (kindOf ((cutA 32 [] x).getD 0 []))=kindOf ((cutA 32 [] x).getD 0 []):=by
    generalize kindOf ((cutA 32 [] x).getD 0 [])=n at hk hk5
    obtain ⟨m,rfl⟩:=Int.eq_ofNat_of_zero_le (Int.not_lt.1 hk)
    have:m=0∨m=1∨m=2∨m=3∨m=4:=by omega
    rcases this with rfl|rfl|rfl|rfl|rfl<;>rfl
  refine ev_pos (by omega) (ev_pos (by simpa using hk5) ?_)
  rw [hrd]
  obtain ⟨e1,h1⟩:=atoi_ev _ (hw 1)
  obtain ⟨e2,h2⟩:=atoi_ev _ (hw 2)
  have t1:(1:Int).toNat=1:=rfl
  have t2:(2:Int).toNat=2:=rfl
  rw [t1,h1]
  by_cases hl1:((cutA 32 [] x).length:Int)>1
  · refine ev_pos hl1 (ev_pos (by omega) ?_)
    simp only [Option.bind_some]
    refine ev_suc ?_
    simp only [impl_ReadDeed.j1,List.length_map,rdOf_map,t2,h2,Option.bind_some]
    by_cases hl2:((cutA 32 [] x).length:Int)>2
    · refine ev_pos hl2 (ev_pos (by omega) (ev_bind (ideed_ev _ _ _) ?_))
      refine Ev.congr (fun _=>iread_end x _ _ _ (fun k a b e h0=>?_) hx0) (Ev.now _)
      obtain ⟨⟨⟨r1,r2⟩,r3,r4⟩,c⟩:=hcut e h0
      rw [e] at c
      rcases c with ⟨rfl,_,c⟩|⟨_,_,_,c⟩|⟨_,_,_,c⟩|⟨_,_,_,_,c⟩|⟨_,_,_,_,c⟩<;>rw [c] at hl2 ⊢<;>simp at hl2
      simp [numA_numT r1 r2,numA_numT r3 r4,kindOf]
    · refine ev_neg hl2 (ev_bind (ideed_ev _ _ _) ?_)
      refine Ev.congr (fun _=>iread_end x _ _ _ (fun k a b e h0=>?_) hx0) (Ev.now _)
      obtain ⟨⟨⟨r1,r2⟩,r3,r4⟩,c⟩:=hcut e h0
      rw [e] at c
      rcases c with ⟨rfl,_,c⟩|⟨rfl,rfl,_,c⟩|⟨rfl,rfl,_,c⟩|⟨_,_,_,_,c⟩|⟨_,_,_,_,c⟩<;>rw [c] at hl1 hl2 ⊢<;>simp at hl1 hl2
      · simp [numA_numT r1 r2,kindOf,putW,stepW]
      · simp [numA_numT r1 r2,kindOf,putW,stepW,drawW]
  · refine ev_neg hl1 (ev_suc ?_)
    simp only [impl_ReadDeed.j1,List.length_map]
    refine ev_neg (by omega) (ev_bind (ideed_ev _ _ _) ?_)
    refine Ev.congr (fun _=>iread_end x _ _ _ (fun k a b e h0=>?_) hx0) (Ev.now _)
    obtain ⟨_,c⟩:=hcut e h0
    rw [e] at c
    rcases c with ⟨rfl,_,c⟩|⟨rfl,rfl,_,c⟩|⟨rfl,rfl,_,c⟩|⟨rfl,rfl,rfl,_,c⟩|⟨rfl,rfl,rfl,_,c⟩<;>rw [c] at hl1 ⊢<;>simp at hl1
    · simp [kindOf,putW,stepW,drawW,againW]
    · simp [kindOf,putW,stepW,drawW,againW,backW]
def mkD (d:Int×Int×Int):S41:=⟨d.1,d.2.1,d.2.2⟩
theorem cut_one (s:Tx):(Lib.cut s [10]=(s,[],false)∧(10:UInt8) ∉ s)∨∃l r,s=l++10 :: r∧(10:UInt8) ∉ l∧Lib.cut s [10]=(l,r,true):=by
  rcases index_one 10 s with ⟨h1,h2⟩|⟨l,r,rfl,h2,h3⟩
  · exact Or.inl ⟨by simp [Lib.cut,h1],h2⟩
  · refine Or.inr ⟨l,r,rfl,h2,?_⟩
    have:¬((l.length:Int)=-1):=by omega
    simp [Lib.cut,h3,this]
theorem ireadj_loop (x:Tx) (hx:x.length≤1048576):∀(n:Nat) (s pre:Tx) (ds:List (Int×Int×Int)),s.length≤n→x=pre++s→ds.length≤pre.length →
    Ev (fun k=>impl_ReadJournal.l0 k (ba x) (ds.map mkD) (pre.length:Int)) ((rjL (cutA 10 [] s) ds pre.length).1.map mkD,((rjL (cutA 10 [] s) ds pre.length).2:Int)):=by
  intro n
  induction n with
  |zero =>
    intro s pre ds hs h hd
    obtain rfl:=List.eq_nil_of_length_eq_zero (Nat.le_zero.1 hs)
    have e:x.length=pre.length:=by rw [h];simp
    refine ev_suc ?_
    simp only [impl_ReadJournal.l0]
    refine ev_pos (by omega) (ev_pos (by rw [ba_size];omega) ?_)
    have e2:(ba x).extract (pre.length:Int).toNat (ba x).size=ba []:=by rw [ba_extract];congr 1;rw [h];simp
    simp only [e2,strings_Cut.f]
    refine ev_bind (Ev.now _) ?_
    refine ev_bind (iread_ev [] (by simp)) ?_
    refine ev_neg (by decide) ?_
    simp only [cutA,rjL]
    exact Ev.now _
  |succ n ih =>
    intro s pre ds hs h hd
    have e:x.length=pre.length+s.length:=by rw [h];simp
    refine ev_suc ?_
    simp only [impl_ReadJournal.l0]
    refine ev_pos (by omega) (ev_pos (by rw [ba_size];omega) ?_)
    have e2:(ba x).extract (pre.length:Int).toNat (ba x).size=ba s:=by rw [ba_extract];congr 1;rw [h,ba_size];simp
    have e3:(⟨#[10]⟩:ByteArray)=ba [10]:=rfl
    simp only [e2,e3,strings_Cut.f]
    simp only [ba_size,ba_list]
    rw [if_pos (by omega)]
    simp only [Option.bind_some]
    rcases cut_one s with ⟨h1,h2⟩|⟨l,r,rfl,h2,h3⟩
    · rw [h1]
      refine ev_bind (iread_ev s (by omega)) (ev_neg (by simp) ?_)
      rw [cutA_none s [] h2]
      simp only [rjL]
      exact Ev.now _
    · rw [h3]
      have el:(l++10 :: r).length=l.length+(r.length+1):=by simp
      refine ev_bind (iread_ev l (by omega)) (ev_pos rfl ?_)
      rw [cutA_hit l [] r h2,List.nil_append,rjL_cut]
      by_cases ho:(readD l).2.2.2=true
      · refine ev_pos ho (ev_pos (by rw [List.length_map];omega) ?_)
        rw [if_pos ho]
        have e4:(⟨l.toArray⟩:ByteArray).size=l.length:=ba_size l
        rw [e4,w64 (n:=(l.length:Int)+1) (by omega) (by omega),w64 (by omega) (by omega)]
        have:=ih r (pre++l++[10]) (ds++[((readD l).1,(readD l).2.1,(readD l).2.2.1)]) (by omega) (by rw [h];simp) (by simp;omega)
        have e5:(pre++l++[10]).length=pre.length+l.length+1:=by simp;omega
        rw [e5] at this
        simp only [List.map_append,List.map_cons,List.map_nil,mkD] at this
        have e6:(pre.length:Int)+((l.length:Int)+1)=((pre.length+l.length+1:Nat):Int):=by omega
        rw [e6]
        exact this
      · refine ev_neg ho ?_
        rw [if_neg ho]
        exact Ev.now _
theorem ireadj_ev (x:Tx) (hx:x.length≤1048576):Ev (fun k=>impl_ReadJournal.f k (ba x)) ((readJ x).1.map mkD,((readJ x).2:Int)):=by
  unfold impl_ReadJournal.f readJ
  exact ireadj_loop x hx _ x [] [] (Nat.le_refl _) rfl (Nat.le_refl _)
theorem rjL_len:∀(ps:List Tx) (ds:List (Int×Int×Int)) (n:Nat),(rjL ps ds n).1.length≤ds.length+ps.length
  |p :: q :: t,ds,n=>by
    rw [rjL]
    split
    · have:=rjL_len (q :: t) (ds++[((readD p).1,(readD p).2.1,(readD p).2.2.1)]) (n+p.length+1)
      simp at this ⊢;omega
    · simp
  | [_],ds,n=>by simp [rjL]
  | [],ds,n=>by simp [rjL]
theorem readJ_len (x:Tx):(readJ x).1.length≤x.length+1:=by
  have h1:=rjL_len (cutA 10 [] x) [] 0
  have h2:=cutA_len 10 x []
  unfold readJ
  simp at h1;omega
theorem cut_loop (c:UInt8) (l:Tx) (hl:l.length≤1000000000000):∀(suf acc pre:Tx) (done:List ByteArray),l=pre++(acc++suf)→done.length≤pre.length →
    Ev (fun k=>spec_l1Cut.l0 k (ba l) (c.toNat:Int) done (pre.length:Int) ((pre++acc).length:Int)) (done++(cutA c acc suf).map ba):=by
  intro suf
  induction suf with
  |nil =>
    intro acc pre done h hd
    have e:l.length=pre.length+acc.length:=by rw [h];simp
    have ha:(pre++acc).length=pre.length+acc.length:=List.length_append
    refine ev_suc ?_
    simp only [spec_l1Cut.l0]
    refine ev_neg (by rw [ba_size];omega) (ev_pos (by omega) (ev_pos (by rw [ba_size];omega) (ev_pos (by omega) (ev_eq (Ev.now _) ?_))))
    rw [ba_extract,ba_size]
    have e2:(l.drop (pre.length:Int).toNat).take (l.length - (pre.length:Int).toNat)=acc:=by
      rw [List.append_nil] at h
      subst h
      simp
    rw [e2]
    rfl
  |cons b t ih =>
    intro acc pre done h hd
    have e:l.length=pre.length+(acc.length+(t.length+1)):=by rw [h];simp
    have ha:(pre++acc).length=pre.length+acc.length:=List.length_append
    have hb:bt (ba l) ((pre++acc).length:Int)=(b.toNat:Int):=by rw [h,←List.append_assoc];exact bt_ba _ _ _
    refine ev_suc ?_
    simp only [spec_l1Cut.l0]
    refine ev_pos (by rw [ba_size];omega) (ev_pos (by omega) ?_)
    rw [hb]
    by_cases hc:b=c
    · subst hc
      refine ev_pos rfl (ev_pos (by omega) (ev_pos (by omega) (ev_pos (by rw [ba_size];omega) (ev_pos (by omega) ?_))))
      rw [ba_extract]
      have e2:(l.drop (pre.length:Int).toNat).take (((pre++acc).length:Int).toNat - (pre.length:Int).toNat)=acc:=by
        rw [Int.toNat_natCast,Int.toNat_natCast,ha,Nat.add_sub_cancel_left,h,List.drop_left,List.take_left]
      rw [e2,w64 (by omega) (by omega)]
      have:=ih [] (pre++acc++[b]) (done++[ba acc]) (by rw [h];simp) (by simp;omega)
      have e3:(((pre++acc).length:Int)+1)=((pre++acc++[b]).length:Int):=len_at _ _
      rw [e3]
      rw [List.append_nil] at this
      refine ev_eq this ?_
      rw [cutA,if_pos rfl]
      simp
    · refine ev_neg (fun e=>hc (UInt8.toNat_inj.1 (by omega))) ?_
      rw [w64 (by omega) (by omega)]
      have:=ih (acc++[b]) pre done (by rw [h];simp) hd
      have e3:(((pre++acc).length:Int)+1)=((pre++(acc++[b])).length:Int):=by rw [←List.append_assoc];exact len_at _ _
      rw [e3]
      refine ev_eq this ?_
      rw [cutA,if_neg hc]
theorem scut_ev (c:UInt8) (l:Tx) (hl:l.length≤1000000000000) (n:Int) (hn:n=(c.toNat:Int)):Ev (fun k=>spec_l1Cut.f k (ba l) n) ((cutA c [] l).map ba):=by
  subst hn
  have:=cut_loop c l hl l [] [] [] rfl (Nat.le_refl _)
  simpa [spec_l1Cut.f] using this
theorem digits_loop (x:Tx) (hx:x.length≤1000000000000):∀(suf pre:Tx),x=pre++suf→∀a,∃v,Ev (fun k=>spec_l1Digits.l0 k (ba x) a (pre.length:Int)) v:=by
  intro suf
  induction suf with
  |nil =>
    intro pre h a
    have e:x.length=pre.length:=by rw [h];simp
    exact ⟨a,ev_suc (by simp only [spec_l1Digits.l0];exact ev_neg (by rw [ba_size];omega) (Ev.now _))⟩
  |cons b t ih =>
    intro pre h a
    have e:x.length=pre.length+(t.length+1):=by rw [h];simp
    have hb:bt (ba x) (pre.length:Int)=(b.toNat:Int):=by rw [h];exact bt_ba _ _ _
    by_cases h1:(b.toNat:Int)<48
    · refine ⟨-1,ev_suc ?_⟩
      simp only [spec_l1Digits.l0,hb]
      exact ev_pos (by rw [ba_size];omega) (ev_pos (by omega) (ev_pos h1 (Ev.now _)))
    by_cases h2:(b.toNat:Int)>57
    · refine ⟨-1,ev_suc ?_⟩
      simp only [spec_l1Digits.l0,hb]
      exact ev_pos (by rw [ba_size];omega) (ev_pos (by omega) (ev_neg h1 (ev_pos h2 (Ev.now _))))
    obtain ⟨v,hv⟩:=ih (pre++[b]) (by rw [h];simp) (wrap64 ((wrap64 (10*a))+(((b.toNat:Int) - 48) % 256)))
    refine ⟨v,ev_suc ?_⟩
    simp only [spec_l1Digits.l0,hb]
    refine ev_pos (by rw [ba_size];omega) (ev_pos (by omega) (ev_neg h1 (ev_neg h2 ?_)))
    rw [w64 (n:=(pre.length:Int)+1) (by omega) (by omega),len_at pre b]
    exact hv
theorem digits_some (x:Tx) (hx:x.length≤1000000000000):∃v,Ev (fun k=>spec_l1Digits.f k (ba x)) v:=by
  have hf:∃v,Ev (fun k=>spec_l1Digits.j0 k (ba x) false) v:=by
    obtain ⟨v,hv⟩:=digits_loop x hx x [] rfl 0
    exact ⟨v,ev_suc (by simp only [spec_l1Digits.j0];exact ev_neg (by decide) hv)⟩
  have ht:∃v,Ev (fun k=>spec_l1Digits.j0 k (ba x) true) v:=⟨-1,ev_suc (by simp only [spec_l1Digits.j0];exact ev_pos trivial (Ev.now _))⟩
  have hj:∀b,∃v,Ev (fun k=>spec_l1Digits.j0 k (ba x) b) v:=fun b=>match b with|false=>hf|true=>ht
  unfold spec_l1Digits.f
  simp only [specIn_ev,Option.bind_some,decide_eq_true_eq]
  split
  · split
    · obtain ⟨v,hv⟩:=hj ((bt (ba x) 0) == 48)
      exact ⟨v,ev_pos (by omega) hv⟩
    · exact hf
  · exact ht
theorem signed_some (x:Tx) (hx:x.length≤1000000000000):∃v,Ev (fun k=>spec_l15Signed.f k (ba x)) v:=by
  obtain ⟨d,hd⟩:=digits_some x hx
  have hf:∃v,Ev (fun k=>spec_l15Signed.j0 k (ba x) false) v:=by
    by_cases h:d<0
    · exact ⟨-100,ev_suc (by simp only [spec_l15Signed.j0];exact ev_neg (by decide) (ev_bind hd (ev_pos h (Ev.now _))))⟩
    · exact ⟨d,ev_suc (by simp only [spec_l15Signed.j0];exact ev_neg (by decide) (ev_bind hd (ev_neg h (Ev.now _))))⟩
  unfold spec_l15Signed.f
  split
  · rename_i h1
    rw [ba_size] at h1
    obtain ⟨e,he⟩:=digits_some (x.drop 1) (by rw [List.length_drop];omega)
    have e1:(ba x).extract 1 (ba x).size=ba (x.drop 1):=by
      rw [ba_extract,ba_size]
      congr 1
      exact List.take_of_length_le (by simp)
    have ht:∃v,Ev (fun k=>spec_l15Signed.j0 k (ba x) true) v :=
      ⟨wrap64 (-e),ev_suc (by simp only [spec_l15Signed.j0,e1];exact ev_pos trivial (ev_pos (by rw [ba_size];omega) (ev_bind he (Ev.now _))))⟩
    have hj:∀b,∃v,Ev (fun k=>spec_l15Signed.j0 k (ba x) b) v:=fun b=>match b with|false=>hf|true=>ht
    simp only [e1]
    split
    · split
      · obtain ⟨v,hv⟩:=hj (decide (e>0))
        exact ⟨v,ev_pos (by rw [ba_size];omega) (ev_bind he hv)⟩
      · exact hf
    · rename_i h2;rw [ba_size] at h2;omega
  · exact hf
theorem signed_ev {n:Int} (h0 : -99≤n) (h1:n≤99):Ev (fun k=>spec_l15Signed.f k (ba (numT n))) n:=by
  have:=small_all (p:=fun n=>decide (spec_l15Signed.f 20 (ba (numT n))=some n)) (by decide +kernel) h0 h1
  exact Ev.of (fun k=>spec_l15Signed.mono _ _) (of_decide_eq_true this)
theorem cand_loop (x:Tx) (cs:List S41) (hl:cs.length≤1000):∀(suf pre:List S41),cs=pre++suf →
    (∀k a b,deedT k a b=x→x≠[]→(⟨k,a,b⟩:S41) ∈ suf)→Ev (fun k=>spec_ReadDeed.l0 k (ba x) cs (pre.length:Int)) (readD x):=by
  intro suf
  induction suf with
  |nil =>
    intro pre h hd
    have e:cs.length=pre.length:=by rw [h];simp
    refine ev_suc ?_
    simp only [spec_ReadDeed.l0]
    refine ev_neg (by omega) ?_
    rw [readD_not fun k a b h=>?_]
    · exact Ev.now _
    by_cases hx:x=[]
    · exact hx
    · exact absurd (hd k a b h hx) (by simp)
  |cons c t ih =>
    intro pre h hd
    have e:cs.length=pre.length+(t.length+1):=by rw [h];simp
    have hc:rd_T41 cs (pre.length:Int)=c:=by rw [h];simp [rd_T41]
    refine ev_suc ?_
    simp only [spec_ReadDeed.l0,toList_ba,hc]
    rw [w64 (by omega) (by omega),len_at pre c]
    refine ev_pos (by omega) ?_
    by_cases hx:x=[]
    · refine ev_pos hx (ih (pre++[c]) (by rw [h];simp) fun _ _ _ _ h=>absurd hx h)
    refine ev_neg hx (ev_pos (by omega) (ev_bind (sdeed_ev _ _ _) ?_))
    simp only [toList_ba]
    by_cases hm:deedT c.f0 c.f1 c.f2=x
    · refine ev_pos hm ?_
      rw [readD_of hm hx]
      exact Ev.now _
    · refine ev_neg hm (ih (pre++[c]) (by rw [h];simp) fun k a b h1 h2=>?_)
      rcases List.mem_cons.1 (hd k a b h1 h2) with h3|h3
      · exact absurd (by rw [←h3];exact h1) hm
      · exact h3
theorem sread_ev (x:Tx) (hx:x.length≤1048576):Ev (fun k=>spec_ReadDeed.f k (ba x)) (readD x):=by
  unfold spec_ReadDeed.f
  refine ev_bind (scut_ev 32 x (by omega) 32 rfl) ?_
  simp only [Option.bind_some,List.length_map,rdOf_map]
  have hcut:∀{k a b:Int},deedT k a b=x→x≠[]→_:=fun {k a b} h h2=>deed_cases (k:=k) (a:=a) (b:=b) (by rw [h];exact h2)
  have hw:=words_small x hx
  obtain ⟨v1,h1⟩:=signed_some _ (Nat.le_trans (hw 1) (by omega))
  obtain ⟨v2,h2⟩:=signed_some _ (Nat.le_trans (hw 2) (by omega))
  have h3:∀cs:List S41,cs.length≤4→(∀k a b,deedT k a b=x→x≠[]→(⟨k,a,b⟩:S41) ∈ cs)→Ev (fun k=>spec_ReadDeed.j1 k (ba x) cs) (readD x):=fun cs hl hd =>
    ev_suc (by simp only [spec_ReadDeed.j1];exact cand_loop x cs (by omega) cs [] rfl hd)
  by_cases hl2:((cutA 32 [] x).length:Int)=2
  · refine ev_pos hl2 (ev_pos (by omega) (ev_bind h1 (ev_pos (by simp) (ev_suc ?_))))
    simp only [spec_ReadDeed.j0,List.length_map]
    refine ev_neg (by omega) (h3 _ (by simp) fun k a b e hx0=>?_)
    obtain ⟨⟨⟨r1,r2⟩,_⟩,c⟩:=hcut e hx0
    rw [e] at c
    rcases c with ⟨_,_,c⟩|⟨rfl,rfl,_,c⟩|⟨rfl,rfl,_,c⟩|⟨rfl,rfl,rfl,_,c⟩|⟨rfl,rfl,rfl,_,c⟩<;>rw [c] at hl2 h1<;>simp at hl2
    · have:v1=a:=ev_uniq h1 (signed_ev r1 r2)
      subst this;simp
    · have:v1=a:=ev_uniq h1 (signed_ev r1 r2)
      subst this;simp
  refine ev_neg hl2 (ev_suc ?_)
  simp only [spec_ReadDeed.j0,List.length_map,rdOf_map]
  by_cases hl3:((cutA 32 [] x).length:Int)=3
  · refine ev_pos hl3 (ev_pos (by omega) (ev_bind h1 (ev_pos (by omega) (ev_bind h2 (ev_pos (by simp) (h3 _ (by simp) fun k a b e hx0=>?_))))))
    obtain ⟨⟨⟨r1,r2⟩,r3,r4⟩,c⟩:=hcut e hx0
    rw [e] at c
    rcases c with ⟨rfl,_,c⟩|⟨rfl,rfl,_,c⟩|⟨rfl,rfl,_,c⟩|⟨rfl,rfl,rfl,_,c⟩|⟨rfl,rfl,rfl,_,c⟩<;>rw [c] at hl3 h1 h2<;>simp at hl3
    have e1:v1=a:=ev_uniq h1 (signed_ev r1 r2)
    have e2:v2=b:=ev_uniq h2 (signed_ev r3 r4)
    subst e1;subst e2;simp
  · refine ev_neg hl3 (h3 _ (by simp) fun k a b e hx0=>?_)
    obtain ⟨_,c⟩:=hcut e hx0
    rw [e] at c
    rcases c with ⟨rfl,_,c⟩|⟨rfl,rfl,_,c⟩|⟨rfl,rfl,_,c⟩|⟨rfl,rfl,rfl,_,c⟩|⟨rfl,rfl,rfl,_,c⟩<;>rw [c] at hl2 hl3<;>simp at hl2 hl3 ⊢
theorem sreadj_loop (x:Tx) (hx:x.length≤1048576):∀(suf acc pre:Tx) (ds:List (Int×Int×Int)),x=pre++(acc++suf)→ds.length≤pre.length →
    Ev (fun k=>spec_ReadJournal.l0 k (ba x) (ds.map mkD) (pre.length:Int) ((pre++acc).length:Int)) ((rjL (cutA 10 acc suf) ds pre.length).1.map mkD,((rjL (cutA 10 acc suf) ds pre.length).2:Int)):=by
  intro suf
  induction suf with
  |nil =>
    intro acc pre ds h hd
    have e:x.length=pre.length+acc.length:=by rw [h];simp
    have ha:(pre++acc).length=pre.length+acc.length:=List.length_append
    refine ev_suc ?_
    simp only [spec_ReadJournal.l0]
    refine ev_neg (by rw [ba_size];omega) ?_
    simp only [cutA,rjL]
    exact Ev.now _
  |cons b t ih =>
    intro acc pre ds h hd
    have e:x.length=pre.length+(acc.length+(t.length+1)):=by rw [h];simp
    have ha:(pre++acc).length=pre.length+acc.length:=List.length_append
    have hb:bt (ba x) ((pre++acc).length:Int)=(b.toNat:Int):=by rw [h,←List.append_assoc];exact bt_ba _ _ _
    refine ev_suc ?_
    simp only [spec_ReadJournal.l0]
    refine ev_pos (by rw [ba_size];omega) (ev_pos (by omega) ?_)
    rw [hb]
    by_cases hc:b=10
    · subst hc
      refine ev_pos rfl (ev_pos (by omega) (ev_pos (by omega) (ev_pos (by rw [ba_size];omega) ?_)))
      rw [ba_extract]
      have e2:(x.drop (pre.length:Int).toNat).take (((pre++acc).length:Int).toNat - (pre.length:Int).toNat)=acc:=by
        rw [Int.toNat_natCast,Int.toNat_natCast,ha,Nat.add_sub_cancel_left,h,List.drop_left,List.take_left]
      rw [e2]
      refine ev_bind (sread_ev acc (by omega)) ?_
      rw [cutA,if_pos rfl,rjL_cut]
      by_cases ho:(readD acc).2.2.2=true
      · refine ev_pos ho (ev_pos (by rw [List.length_map];omega) ?_)
        rw [w64 (by omega) (by omega),if_pos ho]
        have:=ih [] (pre++acc++[10]) (ds++[((readD acc).1,(readD acc).2.1,(readD acc).2.2.1)]) (h.trans (by simp [List.append_assoc])) (by simp;omega)
        have e3:(((pre++acc).length:Int)+1)=((pre++acc++[10]).length:Int):=len_at _ _
        have e4:(pre++acc++[10]).length=pre.length+acc.length+1:=by simp;omega
        rw [e3]
        rw [List.append_nil,e4] at this
        simp only [List.map_append,List.map_cons,List.map_nil,mkD] at this
        rw [e4]
        exact this
      · refine ev_neg ho ?_
        rw [if_neg ho]
        exact Ev.now _
    · have h10:(10:UInt8).toNat=10:=rfl
      refine ev_neg (fun e=>hc (UInt8.toNat_inj.1 (by omega))) ?_
      rw [w64 (by omega) (by omega)]
      have:=ih (acc++[b]) pre ds (by rw [h];simp) hd
      have e3:(((pre++acc).length:Int)+1)=((pre++(acc++[b])).length:Int):=by rw [←List.append_assoc];exact len_at _ _
      rw [e3,cutA,if_neg hc]
      exact this
theorem sreadj_ev (x:Tx) (hx:x.length≤1048576):Ev (fun k=>spec_ReadJournal.f k (ba x)) ((readJ x).1.map mkD,((readJ x).2:Int)):=by
  unfold spec_ReadJournal.f readJ
  exact sreadj_loop x hx x [] [] [] rfl (Nat.le_refl _)
theorem placeT_nil {u:List Int} {s:Int} {w:List Int} (h:placeT u s w=[]):¬placeB u s w=true:=fun hp=>by
  unfold placeT at h
  rw [if_pos hp] at h
  simp at h
/-- The urn with so many balls of a colour more. -/
def putM (u:List Int) (a b:Int):List Int×Bool :=
  if urnB u=true∧(0≤a∧a<(u.length:Int))∧(-40≤b∧b≤40)∧urnB (u.set a.toNat (rd u a+b))=true then (u.set a.toNat (rd u a+b),true) else ([],false)
/-- What a deed makes of a place, if it can be tried. -/
def madeM (u:List Int) (s:Int) (w:List Int) (x y z:Int):Option (List Int×Int×List Int) :=
  if x=0 then (if (putM u y z).2=true∧w=[] then some ((putM u y z).1,s,[]) else none)
  else if z=0 then
    (if x=1 then (if w=[] then some (u,y,[]) else none)
    else if x=2 then some (u,s,w++[y])
    else if x=3∧y=0 then some (u,s,[]) else none)
  else none
def pastM (l:List S30):List S30:=if l.length>8 then l.drop 1 else l
/-- A place that comes of a deed is taken, if it is one, and another one. -/
def takeM (u:List Int) (s:Int) (w:List Int) (a:List S30) (u':List Int) (s':Int) (w':List Int):List Int×Int×List Int×List S30×Bool :=
  if placeB u' s' w'=true∧¬(u'=u∧s'=s∧w'=w) then (u',s',w',pastM (a++[⟨u,s,w⟩]),true) else (u,s,w,a,false)
def backM (u:List Int) (s:Int) (w:List Int) (a:List S30):List Int×Int×List Int×List S30×Bool :=
  match a.getLast? with
  |some q=>(q.f0,q.f1,q.f2,a.dropLast,true)
  |none=>(u,s,w,a,false)
/-- The desk after a deed, and whether it was done. -/
def doM (u:List Int) (s:Int) (w:List Int) (a:List S30) (x y z:Int):List Int×Int×List Int×List S30×Bool :=
  if deskB u s w a=true then
    if x=4∧y=0∧z=0 then backM u s w a
    else match madeM u s w x y z with
      |some d=>takeM u s w a d.1 d.2.1 d.2.2
      |none=>(u,s,w,a,false)
  else ([],0,[],[],false)
theorem urn_small {u:List Int} (h:urnB u=true) {i:Int} (h0:0≤i) (h1:i<(u.length:Int)):0≤rd u i∧rd u i≤40:=((urnB_iff u).1 h).1 _ (rd_mem h0 h1)
theorem text_same {u:List Int} {s:Int} {w:List Int} (hp:placeB u s w=true) (u':List Int) (s':Int) (w':List Int) (hp':placeB u' s' w'=true):(placeT u' s' w' == placeT u s w)=true ↔ (u'=u∧s'=s∧w'=w):=by
  constructor
  · intro h
    exact place_inj (fun hn=>placeT_nil hn hp') (beq_iff_eq.1 h)
  · rintro ⟨rfl,rfl,rfl⟩;simp
theorem desk_data {u:List Int} {s:Int} {w:List Int} {a:List S30} (h:deskB u s w a=true):u.length≤3∧w.length≤6∧a.length≤8∧placeB u s w=true∧∀q ∈ a,placeB q.f0 q.f1 q.f2=true∧q.f0.length≤3∧q.f2.length≤6:=by
  obtain ⟨h1,h2,h3⟩:=(deskB_iff _ _ _ _).1 h
  obtain ⟨_,_,p3,_,_,_,p7⟩:=place_data h2
  refine ⟨p3,p7,h3,h2,fun q hq=>?_⟩
  obtain ⟨_,_,q3,_,_,_,q7⟩:=place_data (h1 q hq)
  exact ⟨h1 q hq,q3,q7⟩
theorem putM_len (u:List Int) (a b:Int):(putM u a b).1.length≤u.length:=by unfold putM;split<;>simp
theorem last_split {a:List S30} {q:S30} (h:a.getLast?=some q):a=a.dropLast++[q]:=by
  rcases List.eq_nil_or_concat a with rfl|⟨p,r,rfl⟩
  · simp at h
  · simp at h;subst h;simp
theorem doM_desk {u:List Int} {s:Int} {w:List Int} {a:List S30} (h:deskB u s w a=true) (x y z:Int):deskB (doM u s w a x y z).1 (doM u s w a x y z).2.1 (doM u s w a x y z).2.2.1 (doM u s w a x y z).2.2.2.1=true:=by
  obtain ⟨h1,h2,h3⟩:=(deskB_iff _ _ _ _).1 h
  unfold doM
  rw [if_pos h]
  split
  · unfold backM
    split
    · rename_i q hq
      have e:=last_split hq
      rw [deskB_iff]
      refine ⟨fun r hr=>h1 r (by rw [e];simp [hr]),h1 q (by rw [e];simp),by rw [List.length_dropLast];omega⟩
    · exact h
  · split
    · rename_i d _
      unfold takeM
      split
      · rename_i hp
        rw [deskB_iff]
        have hm:∀r ∈ a++[(⟨u,s,w⟩:S30)],placeB r.f0 r.f1 r.f2=true:=by
          intro r hr
          rcases List.mem_append.1 hr with hr|hr
          · exact h1 r hr
          · rw [List.mem_singleton] at hr;subst hr;exact h2
        refine ⟨fun r hr=>hm r ?_,hp.1,?_⟩
        · unfold pastM at hr
          split at hr
          · exact List.mem_of_mem_drop hr
          · exact hr
        · unfold pastM
          dsimp only
          split
          · simp;omega
          · omega
      · exact h
    · exact h
theorem doM_some {u:List Int} {s:Int} {w:List Int} {a:List S30} {x y z:Int} {d:List Int×Int×List Int} (hd:deskB u s w a=true) (h4:¬(x=4∧y=0∧z=0)) (hm:madeM u s w x y z=some d):doM u s w a x y z=takeM u s w a d.1 d.2.1 d.2.2:=by
  unfold doM;rw [if_pos hd,if_neg h4,hm]
theorem doM_none {u:List Int} {s:Int} {w:List Int} {a:List S30} {x y z:Int} (hd:deskB u s w a=true) (h4:¬(x=4∧y=0∧z=0)) (hm:madeM u s w x y z=none):doM u s w a x y z=(u,s,w,a,false):=by
  unfold doM;rw [if_pos hd,if_neg h4,hm]
theorem doM_back {u:List Int} {s:Int} {w:List Int} {a:List S30} {x y z:Int} (hd:deskB u s w a=true) (h4:x=4∧y=0∧z=0):doM u s w a x y z=backM u s w a:=by
  unfold doM;rw [if_pos hd,if_pos h4]
/-- The desk after deeds, those left out that can't be done, and how many were done. -/
def runM:List S41→List Int→Int→List Int→List S30→List Int×Int×List Int×List S30×Nat
  | [],u,s,w,a=>(u,s,w,a,0)
  |e :: t,u,s,w,a =>
    if (doM u s w a e.f0 e.f1 e.f2).2.2.2.2=true then
      ((runM t (doM u s w a e.f0 e.f1 e.f2).1 (doM u s w a e.f0 e.f1 e.f2).2.1 (doM u s w a e.f0 e.f1 e.f2).2.2.1 (doM u s w a e.f0 e.f1 e.f2).2.2.2.1).1,
       (runM t (doM u s w a e.f0 e.f1 e.f2).1 (doM u s w a e.f0 e.f1 e.f2).2.1 (doM u s w a e.f0 e.f1 e.f2).2.2.1 (doM u s w a e.f0 e.f1 e.f2).2.2.2.1).2.1,
       (runM t (doM u s w a e.f0 e.f1 e.f2).1 (doM u s w a e.f0 e.f1 e.f2).2.1 (doM u s w a e.f0 e.f1 e.f2).2.2.1 (doM u s w a e.f0 e.f1 e.f2).2.2.2.1).2.2.1,
       (runM t (doM u s w a e.f0 e.f1 e.f2).1 (doM u s w a e.f0 e.f1 e.f2).2.1 (doM u s w a e.f0 e.f1 e.f2).2.2.1 (doM u s w a e.f0 e.f1 e.f2).2.2.2.1).2.2.2.1,
       (runM t (doM u s w a e.f0 e.f1 e.f2).1 (doM u s w a e.f0 e.f1 e.f2).2.1 (doM u s w a e.f0 e.f1 e.f2).2.2.1 (doM u s w a e.f0 e.f1 e.f2).2.2.2.1).2.2.2.2+1)
    else runM t u s w a
theorem runM_desk:∀(l:List S41) (u:List Int) (s:Int) (w:List Int) (a:List S30),deskB u s w a=true→deskB (runM l u s w a).1 (runM l u s w a).2.1 (runM l u s w a).2.2.1 (runM l u s w a).2.2.2.1=true:=by
  intro l
  induction l with
  |nil=>intro u s w a h;exact h
  |cons e t ih =>
    intro u s w a h
    unfold runM
    split
    · exact ih _ _ _ _ (doM_desk h _ _ _)
    · exact ih _ _ _ _ h
theorem runM_append:∀(l m:List S41) (u:List Int) (s:Int) (w:List Int) (a:List S30),runM (l++m) u s w a =
    ((runM m (runM l u s w a).1 (runM l u s w a).2.1 (runM l u s w a).2.2.1 (runM l u s w a).2.2.2.1).1,(runM m (runM l u s w a).1 (runM l u s w a).2.1 (runM l u s w a).2.2.1 (runM l u s w a).2.2.2.1).2.1,
     (runM m (runM l u s w a).1 (runM l u s w a).2.1 (runM l u s w a).2.2.1 (runM l u s w a).2.2.2.1).2.2.1,(runM m (runM l u s w a).1 (runM l u s w a).2.1 (runM l u s w a).2.2.1 (runM l u s w a).2.2.2.1).2.2.2.1,
     (runM m (runM l u s w a).1 (runM l u s w a).2.1 (runM l u s w a).2.2.1 (runM l u s w a).2.2.2.1).2.2.2.2+(runM l u s w a).2.2.2.2):=by
  intro l
  induction l with
  |nil=>intro m u s w a;rfl
  |cons e t ih =>
    intro m u s w a
    rw [List.cons_append]
    by_cases h:(doM u s w a e.f0 e.f1 e.f2).2.2.2.2=true
    · have e1:∀l',runM (e :: l') u s w a=((runM l' (doM u s w a e.f0 e.f1 e.f2).1 (doM u s w a e.f0 e.f1 e.f2).2.1 (doM u s w a e.f0 e.f1 e.f2).2.2.1 (doM u s w a e.f0 e.f1 e.f2).2.2.2.1).1,(runM l' (doM u s w a e.f0 e.f1 e.f2).1 (doM u s w a e.f0 e.f1 e.f2).2.1 (doM u s w a e.f0 e.f1 e.f2).2.2.1 (doM u s w a e.f0 e.f1 e.f2).2.2.2.1).2.1,(runM l' (doM u s w a e.f0 e.f1 e.f2).1 (doM u s w a e.f0 e.f1 e.f2).2.1 (doM u s w a e.f0 e.f1 e.f2).2.2.1 (doM u s w a e.f0 e.f1 e.f2).2.2.2.1).2.2.1,(runM l' (doM u s w a e.f0 e.f1 e.f2).1 (doM u s w a e.f0 e.f1 e.f2).2.1 (doM u s w a e.f0 e.f1 e.f2).2.2.1 (doM u s w a e.f0 e.f1 e.f2).2.2.2.1).2.2.2.1,(runM l' (doM u s w a e.f0 e.f1 e.f2).1 (doM u s w a e.f0 e.f1 e.f2).2.1 (doM u s w a e.f0 e.f1 e.f2).2.2.1 (doM u s w a e.f0 e.f1 e.f2).2.2.2.1).2.2.2.2+1):=fun l'=>by rw [runM,if_pos h]
      rw [e1,e1,ih]
      simp only [Prod.mk.injEq,true_and]
      omega
    · have e1:∀l',runM (e :: l') u s w a=runM l' u s w a:=fun l'=>by rw [runM,if_neg h]
      rw [e1,e1,ih]
theorem desk_sized {u:List Int} {s:Int} {w:List Int} {a:List S30} (h:deskB u s w a=true):(u.length:Int)≤1000000∧(w.length:Int)≤1000000∧(a.length:Int)≤1000000∧∀q ∈ a,Sized1 q:=by
  obtain ⟨d1,d2,d3,_,d5⟩:=desk_data h
  exact ⟨by omega,by omega,by omega,fun q hq=>⟨by have:=(d5 q hq).2.1;omega,by have:=(d5 q hq).2.2;omega⟩⟩
theorem colours_ev (n:Int):impl_coloursOk.f n=some (decide (1≤n) && decide (n≤3)):=by
  unfold impl_coloursOk.f
  by_cases h:n≥1
  · rw [if_pos h];simp;omega
  · rw [if_neg h];simp;omega
theorem urnB_no {u:List Int} {x:Int} (hx:x ∈ u) (h:¬(0≤x∧x≤40)):urnB u=false:=by
  cases e:urnB u with
  |false=>rfl
  |true=>exact absurd (((urnB_iff u).1 e).1 x hx) h
theorem implUrn_loop (l:List Int) (hl:(l.length:Int)≤1000000000000):∀(suf pre:List Int),l=pre++suf→(∀x ∈ pre,0≤x∧x≤40) →
    Ev (fun k=>impl_UrnOk.l0 k l l (l.length:Int) (pre.length:Int)) (urnB l):=by
  intro suf
  induction suf with
  |nil =>
    intro pre h hr
    have e:l.length=pre.length:=by rw [h];simp
    refine ev_suc ?_
    simp (disch:=omega) only [impl_UrnOk.l0,if_neg,colours_ev]
    refine ev_now ?_
    rw [List.append_nil] at h
    subst h
    rw [Bool.eq_iff_iff,urnB_iff]
    simp only [Bool.and_eq_true,decide_eq_true_eq]
    exact ⟨fun h=>⟨hr,by omega,by omega⟩,fun h=>⟨by omega,by omega⟩⟩
  |cons x t ih =>
    intro pre h hr
    have e:l.length=pre.length+(t.length+1):=by rw [h];simp
    have hx:rd l (pre.length:Int)=x:=by rw [h];exact rd_at _ _ _
    have hxl:x ∈ l:=by rw [h];simp
    refine ev_suc ?_
    simp (disch:=omega) only [impl_UrnOk.l0,hx,if_pos]
    by_cases h1:x<0
    · exact ev_pos h1 (ev_now (urnB_no hxl (by omega)).symm)
    · refine ev_neg h1 ?_
      by_cases h2:x>40
      · exact ev_pos h2 (ev_now (urnB_no hxl (by omega)).symm)
      · refine ev_neg h2 ?_
        rw [w64 (by omega) (by omega),len_at pre x]
        refine ih (pre++[x]) (by rw [h];simp) ?_
        intro y hy
        rcases List.mem_append.1 hy with hy|hy
        · exact hr y hy
        · rw [List.mem_singleton] at hy;subst hy;omega
theorem implUrnOk_ev (l:List Int) (hl:(l.length:Int)≤1000000000000):Ev (fun k=>impl_UrnOk.f k l) (urnB l):=by
  simp only [impl_UrnOk.f]
  exact implUrn_loop l hl l [] rfl (by simp)
theorem implStart_loop (l:List Int) (hl:(l.length:Int)≤1000000000000):∀(suf pre:List Int),l=pre++suf→(∀x ∈ pre,x≤10) →
    Ev (fun k=>impl_StartOk.l0 k l l (l.length:Int) (pre.length:Int)) (startB l):=by
  intro suf
  induction suf with
  |nil =>
    intro pre h hr
    have e:l.length=pre.length:=by rw [h];simp
    refine ev_suc ?_
    simp (disch:=omega) only [impl_StartOk.l0,if_neg]
    refine ev_bind (implUrnOk_ev l hl) (ev_now ?_)
    rw [List.append_nil] at h
    subst h
    have:(l.all fun x=>decide (x≤10))=true:=by simpa using hr
    simp [startB,this]
  |cons x t ih =>
    intro pre h hr
    have e:l.length=pre.length+(t.length+1):=by rw [h];simp
    have hx:rd l (pre.length:Int)=x:=by rw [h];exact rd_at _ _ _
    have hxl:x ∈ l:=by rw [h];simp
    refine ev_suc ?_
    simp (disch:=omega) only [impl_StartOk.l0,hx,if_pos]
    by_cases h1:x>10
    · refine ev_pos h1 (ev_now ?_)
      cases e:startB l with
      |false=>rfl
      |true=>have:=((startB_iff l).1 e).1 x hxl;omega
    · refine ev_neg h1 ?_
      rw [w64 (by omega) (by omega),len_at pre x]
      refine ih (pre++[x]) (by rw [h];simp) ?_
      intro y hy
      rcases List.mem_append.1 hy with hy|hy
      · exact hr y hy
      · rw [List.mem_singleton] at hy;subst hy;omega
theorem implStartOk_ev (l:List Int) (hl:(l.length:Int)≤1000000000000):Ev (fun k=>impl_StartOk.f k l) (startB l):=by
  simp only [impl_StartOk.f]
  exact implStart_loop l hl l [] rfl (by simp)
theorem wordB_no {n:Int} {w:List Int} {x:Int} (hx:x ∈ w) (h:¬(0≤x∧x<n)):wordB n w=false:=by
  cases e:wordB n w with
  |false=>rfl
  |true=>exact absurd (((wordB_iff n w).1 e).1 x hx) h
theorem implWord_loop (n:Int) (l:List Int) (hl:(l.length:Int)≤1000000000000):∀(suf pre:List Int),l=pre++suf→(∀x ∈ pre,0≤x∧x<n) →
    Ev (fun k=>impl_WordOk.l0 k n l l (l.length:Int) (pre.length:Int)) (wordB n l):=by
  intro suf
  induction suf with
  |nil =>
    intro pre h hr
    have e:l.length=pre.length:=by rw [h];simp
    refine ev_suc ?_
    simp (disch:=omega) only [impl_WordOk.l0,if_neg,colours_ev,Option.bind_some]
    rw [List.append_nil] at h
    subst h
    by_cases hn:1≤n∧n≤3
    · refine ev_pos (by simp [hn]) (ev_now ?_)
      rw [Bool.eq_iff_iff,wordB_iff]
      simp only [decide_eq_true_eq]
      exact ⟨fun h=>⟨hr,by omega,hn⟩,fun h=>by omega⟩
    · refine ev_neg (by simp only [Bool.and_eq_true,decide_eq_true_eq];exact hn) (ev_now ?_)
      cases e:wordB n l with
      |false=>rfl
      |true=>exact absurd ((wordB_iff n l).1 e).2.2 hn
  |cons x t ih =>
    intro pre h hr
    have e:l.length=pre.length+(t.length+1):=by rw [h];simp
    have hx:rd l (pre.length:Int)=x:=by rw [h];exact rd_at _ _ _
    have hxl:x ∈ l:=by rw [h];simp
    refine ev_suc ?_
    simp (disch:=omega) only [impl_WordOk.l0,hx,if_pos]
    by_cases h1:x<0
    · exact ev_pos h1 (ev_now (wordB_no hxl (by omega)).symm)
    · refine ev_neg h1 ?_
      by_cases h2:x≥n
      · exact ev_pos h2 (ev_now (wordB_no hxl (by omega)).symm)
      · refine ev_neg h2 ?_
        rw [w64 (by omega) (by omega),len_at pre x]
        refine ih (pre++[x]) (by rw [h];simp) ?_
        intro y hy
        rcases List.mem_append.1 hy with hy|hy
        · exact hr y hy
        · rw [List.mem_singleton] at hy;subst hy;omega
theorem implWordOk_ev (n:Int) (l:List Int) (hl:(l.length:Int)≤1000000000000):Ev (fun k=>impl_WordOk.f k n l) (wordB n l):=by
  simp only [impl_WordOk.f]
  exact implWord_loop n l hl l [] rfl (by simp)
theorem clone_eq (l:List Int) (hl:(l.length:Int)≤1000000000000):slices_Clone_int_int.f l=some l:=by
  unfold slices_Clone_int_int.f
  rw [if_pos (by omega)]
theorem added_loop (b:List Int) (hb:(b.length:Int)≤1000000000) (hB:Within 1000000000 b):∀(bs q p zs:List Int),b=q++bs→p.length=q.length→bs.length≤zs.length→Within 1000000000 zs →
    Ev (fun k=>impl_added.l0 k (p++zs) b (b.length:Int) (q.length:Int)) (p++zipAdd zs bs):=by
  intro bs
  induction bs with
  |nil =>
    intro q p zs h _ _ _
    have e:b.length=q.length:=by rw [h];simp
    refine ev_suc ?_
    simp (disch:=omega) only [impl_added.l0,if_neg]
    exact ev_now (by cases zs<;>simp [zipAdd])
  |cons y t ih =>
    intro q p zs h hpq hle hA
    cases zs with
    |nil=>simp at hle
    |cons x zs =>
      have e:b.length=q.length+(t.length+1):=by rw [h];simp
      have hy:rd b (q.length:Int)=y:=by rw [h];exact rd_at _ _ _
      have hx:rd (p++x :: zs) (q.length:Int)=x:=by rw [←hpq];exact rd_at _ _ _
      have hl:((p++x :: zs).length:Int)=(q.length:Int)+(zs.length+1):=by simp;omega
      have by_:=hB y (by rw [h];simp)
      have bx_:=hA x (by simp)
      refine ev_suc ?_
      simp (disch:=omega) only [impl_added.l0,hl,hx,hy,if_pos,w64,Int.toNat_natCast]
      have hset:(p++x :: zs).set q.length (x+y)=p++[x+y]++zs:=by rw [←hpq,set_at];simp
      rw [hset,len_at q y]
      have:=ih (q++[y]) (p++[x+y]) zs (by rw [h];simp) (by simp [hpq]) (by simpa using hle) (fun z hz=>hA z (by simp [hz]))
      simpa [zipAdd] using this
theorem added_ev (u:List Int) (s c:Int) (hu:u.length≤3) (hs : -3≤s∧s≤3) (hc:0≤c∧c<(u.length:Int)) (hw:Within 1000000 u) :
    Ev (fun k=>impl_added.f k u (rd_L3 (ruleM u.length s) c)) (bump s u c):=by
  have er:rd_L3 (ruleM u.length s) c=(List.replicate u.length (0:Int)).set c.toNat s:=ruleM_row hc.1 hc.2
  have hlen:((List.replicate u.length (0:Int)).set c.toNat s).length=u.length:=by simp
  simp only [impl_added.f,clone_eq u (by omega),er,Option.bind_some]
  have hW:=within_row (n:=u.length) (c:=c) hs
  have:=added_loop ((List.replicate u.length (0:Int)).set c.toNat s) (by omega) (fun x hx=>by have:=hW x hx;omega) ((List.replicate u.length (0:Int)).set c.toNat s) [] [] u (by simp) rfl (by omega) (fun x hx=>by have:=hw x hx;omega)
  refine ev_eq this ?_
  rw [List.nil_append]
  exact zipAdd_row hu hc.1 hc.2
theorem after_loop (n:Nat) (s:Int) (hn:n≤3) (hs : -3≤s∧s≤3) (w:List Int) (hw:w.length≤100) (hwn:∀c ∈ w,0≤c∧c<(n:Int)):∀(suf pre u:List Int) (b:Int),w=pre++suf→u.length=n→Within b u→0≤b→b+3*suf.length≤1000000 →
    Ev (fun k=>impl_after.l0 k (ruleM n s) u w (w.length:Int) (pre.length:Int)) (afterM s u suf):=by
  intro suf
  induction suf with
  |nil =>
    intro pre u b h _ _ _ _
    have e:w.length=pre.length:=by rw [h];simp
    refine ev_suc ?_
    simp (disch:=omega) only [impl_after.l0,if_neg]
    exact ev_now rfl
  |cons x t ih =>
    intro pre u b h hu hb hb0 hb1
    have e:w.length=pre.length+(t.length+1):=by rw [h];simp
    have hx:rd w (pre.length:Int)=x:=by rw [h];exact rd_at _ _ _
    have hxn:=hwn x (by rw [h];simp)
    have hrl:=ruleM_len n s
    simp only [List.length_cons] at hb1
    refine ev_suc ?_
    simp (disch:=omega) only [impl_after.l0,hx,if_pos,hrl]
    subst hu
    refine ev_bind (added_ev u s x hn hs hxn (fun y hy=>by have:=hb y hy;omega)) ?_
    rw [w64 (by omega) (by omega),len_at pre x]
    rw [afterM_cons]
    have:=ih (pre++[x]) (bump s u x) (b+3) (by rw [h];simp) (bump_len _ _ _) (within_bump hb hs x hxn) (by omega) (by omega)
    exact this
theorem after_ev (u:List Int) (s:Int) (w:List Int) (hu:u.length≤3) (hs : -3≤s∧s≤3) (hw:w.length≤100) (hwn:∀c ∈ w,0≤c∧c<(u.length:Int)) (hb:Within 1000 u) :
    Ev (fun k=>impl_after.f k u (ruleM u.length s) w) (afterM s u w):=by
  simp only [impl_after.f,clone_eq u (by omega),Option.bind_some]
  exact after_loop u.length s hu hs w hw hwn w [] u 1000 rfl rfl hb (by omega) (by omega)
theorem ruleWays_loop (u:List Int) (s:Int) (w:List Int) (hu:u.length≤3) (hs : -3≤s∧s≤3) (hw:w.length≤6) (hwn:∀c ∈ w,0≤c∧c<(u.length:Int)) (hb:Within 10 u):∀(suf pre:List Int) (m:Int),w=pre++suf→0≤m→m≤pw pre.length →
    Ev (fun k=>impl_ruleWays.l0 k u (ruleM u.length s) w m w (w.length:Int) (pre.length:Int)) (m*waysM s (afterM s u pre) suf):=by
  intro suf
  induction suf with
  |nil =>
    intro pre m h h0 h1
    have e:w.length=pre.length:=by rw [h];simp
    refine ev_suc ?_
    simp (disch:=omega) only [impl_ruleWays.l0,if_neg]
    exact ev_now (by simp [waysM])
  |cons x t ih =>
    intro pre m h h0 h1
    have e:w.length=pre.length+(t.length+1):=by rw [h];simp
    have hx:rd w (pre.length:Int)=x:=by rw [h];exact rd_at _ _ _
    have hxn:=hwn x (by rw [h];simp)
    have hpn:∀c ∈ pre,0≤c∧c<(u.length:Int):=fun c hc=>hwn c (by rw [h];simp [hc])
    have htake:w.take ((pre.length:Int)).toNat=pre:=by rw [h];simp
    have hal:=afterM_len s pre u
    have hwi:=within_after hs pre 10 u hb hpn
    have hv:=hwi _ (rd_mem (b:=afterM s u pre) (i:=x) hxn.1 (by omega))
    have hmx:0≤mx 0 (rd (afterM s u pre) x)∧mx 0 (rd (afterM s u pre) x)≤40:=by unfold mx;split<;>omega
    have hle:=mul_le40 (n:=pre.length) h0 h1 hmx.1 hmx.2
    have hnn:=Int.mul_nonneg h0 hmx.1
    have hpw:=pw_le (n:=pre.length+1) (by omega)
    refine ev_suc ?_
    simp (disch:=omega) only [impl_ruleWays.l0,hx,if_pos,htake]
    refine ev_bind (after_ev u s pre hu hs (by omega) hpn (fun y hy=>by have:=hb y hy;omega)) ?_
    simp (disch:=omega) only [hal,if_pos,w64]
    simp only [waysM,←Int.mul_assoc]
    by_cases hz:m*mx 0 (rd (afterM s u pre) x)=0
    · exact ev_pos hz (ev_now (by rw [hz];simp))
    · refine ev_neg hz ?_
      rw [len_at pre x]
      have:=ih (pre++[x]) (m*mx 0 (rd (afterM s u pre) x)) (by rw [h];simp) hnn (by simpa using hle)
      rw [afterM_snoc] at this
      exact this
theorem ruleWays_ev (u:List Int) (s:Int) (w:List Int) (hu:u.length≤3) (hs : -3≤s∧s≤3) (hw:w.length≤6) (hwn:∀c ∈ w,0≤c∧c<(u.length:Int)) (hb:Within 10 u) :
    Ev (fun k=>impl_ruleWays.f k u (ruleM u.length s) w) (waysM s u w):=by
  simp only [impl_ruleWays.f]
  exact ev_eq (ruleWays_loop u s w hu hs hw hwn hb w [] 1 rfl (by omega) (by decide)) (by simp [afterM])
theorem iSameRule_all:∀n:Fin 4,∀s:Fin 5,n.val=0∨impl_SameRule.f 20 (n.val:Int) ((s.val:Int) - 1)=some (ruleM n.val ((s.val:Int) - 1)):=by decide +kernel
theorem iSameRule_ev (n:Nat) (s:Int) (h1:1≤n) (h3:n≤3) (hs : -1≤s∧s≤3):Ev (fun k=>impl_SameRule.f k (n:Int) s) (ruleM n s):=by
  have h:=(iSameRule_all ⟨n,by omega⟩ ⟨(s+1).toNat,by omega⟩).resolve_left (by simp only [];omega)
  have e:(((s+1).toNat:Nat):Int) - 1=s:=by omega
  simp only [e] at h
  exact Ev.of (fun k=>impl_SameRule.mono _ _ k) h
theorem implPlace_ev (u:List Int) (s:Int) (w:List Int) (hu:(u.length:Int)≤1000000000000) (hw:(w.length:Int)≤1000000000000):Ev (fun k=>impl_PlaceOk.f k u s w) (placeB u s w):=by
  have hj:∀r,r=placeB u s w→r=false→Ev (fun k=>impl_PlaceOk.j0 k true u s w) r:=by
    rintro r _ rfl
    refine ev_suc ?_
    simp only [impl_PlaceOk.j0,if_true]
    exact Ev.now _
  simp only [impl_PlaceOk.f]
  refine ev_bind (implStartOk_ev u hu) ?_
  by_cases hS:startB u=true
  · refine ev_pos hS ?_
    by_cases h1:s < -1
    · refine ev_pos h1 (hj _ rfl ?_)
      unfold placeB;simp;omega
    · refine ev_neg h1 ?_
      by_cases h2:s>3
      · refine ev_pos h2 (hj _ rfl ?_)
        unfold placeB;simp;omega
      · refine ev_neg h2 (ev_bind (implWordOk_ev (u.length:Int) w hw) ?_)
        have hu3:=(startB_iff u).1 hS
        by_cases hW:wordB (u.length:Int) w=true
        · have hw6:=(wordB_iff _ _).1 hW
          refine ev_suc ?_
          simp only [impl_PlaceOk.j0,hW,Bool.not_true]
          refine ev_neg (by simp) (ev_bind (iSameRule_ev u.length s hu3.2.1 hu3.2.2 ⟨by omega,by omega⟩) (ev_bind (ruleWays_ev u s w hu3.2.2 ⟨by omega,by omega⟩ hw6.2.1 hw6.1 (fun x hx=>by have:=hu3.1 x hx;omega)) (ev_now ?_)))
          have e1:decide (-1≤s)=true:=by simp;omega
          have e2:decide (s≤3)=true:=by simp;omega
          simp [placeB,hS,hW,e1,e2]
        · have hf:wordB (u.length:Int) w=false:=by simpa using hW
          rw [hf]
          exact hj _ rfl (by simp [placeB,hf])
  · refine ev_neg hS (hj _ rfl ?_)
    have hf:startB u=false:=by simpa using hS
    simp [placeB,hf]
theorem implDesk_loop (u:List Int) (s:Int) (w:List Int) (a:List S30) (hu:(u.length:Int)≤1000000000000) (hw:(w.length:Int)≤1000000000000) (hl:(a.length:Int)≤1000000000000) (hA:∀q ∈ a,Sized1 q):∀(x p:List S30),a=p++x→(∀q ∈ p,placeB q.f0 q.f1 q.f2=true) →
    Ev (fun k=>impl_DeskOk.l0 k a (a.length:Int) (p.length:Int) u s w a) (deskB u s w a):=by
  intro x
  induction x with
  |nil =>
    intro p h hp
    have e:a.length=p.length:=by rw [h];simp
    refine ev_suc ?_
    simp (disch:=omega) only [impl_DeskOk.l0,if_neg]
    rw [List.append_nil] at h
    subst h
    refine ev_bind (implPlace_ev u s w hu hw) ?_
    have hall:(a.all fun q=>placeB q.f0 q.f1 q.f2)=true:=by simpa using hp
    by_cases hP:placeB u s w=true
    · refine ev_pos hP (ev_now ?_)
      simp only [deskB,hall,hP,Bool.true_and]
      rw [Bool.eq_iff_iff];simp only [decide_eq_true_eq];omega
    · refine ev_neg hP (ev_now ?_)
      have hf:placeB u s w=false:=by simpa using hP
      simp [deskB,hf]
  |cons c x ih =>
    intro p h hp
    have e:a.length=p.length+(x.length+1):=by rw [h];simp
    have hx:rd_T30 a (p.length:Int)=c:=by rw [h];exact rdP_at _ _ _
    have hca:c ∈ a:=by rw [h];simp
    have hc:=hA c hca
    refine ev_suc ?_
    simp (disch:=omega) only [impl_DeskOk.l0,hx,if_pos,w64]
    refine ev_bind (implPlace_ev c.f0 c.f1 c.f2 hc.1 hc.2) ?_
    by_cases hP:placeB c.f0 c.f1 c.f2=true
    · refine ev_pos hP ?_
      rw [len_at p c]
      refine ih (p++[c]) (by rw [h];simp) ?_
      intro q hq
      rcases List.mem_append.1 hq with hq|hq
      · exact hp q hq
      · rw [List.mem_singleton] at hq;subst hq;exact hP
    · refine ev_neg hP (ev_now ?_)
      cases e:deskB u s w a with
      |false=>rfl
      |true=>exact absurd (((deskB_iff u s w a).1 e).1 c hca) hP
theorem implDesk_ev (u:List Int) (s:Int) (w:List Int) (a:List S30) (hu:(u.length:Int)≤1000000000000) (hw:(w.length:Int)≤1000000000000) (hl:(a.length:Int)≤1000000000000) (hA:∀q ∈ a,Sized1 q) :
    Ev (fun k=>impl_DeskOk.f k u s w a) (deskB u s w a):=by
  simp only [impl_DeskOk.f]
  exact implDesk_loop u s w a hu hw hl hA a [] rfl (by simp)
theorem copyPlace_eq (u:List Int) (s:Int) (w:List Int) (hu:(u.length:Int)≤1000000000000) (hw:(w.length:Int)≤1000000000000):impl_copyPlace.f u s w=some (u,s,w):=by
  simp [impl_copyPlace.f,clone_eq u hu,clone_eq w hw]
theorem irow_loop (l:List Int) (hl:l.length≤3) (h1:1≤l.length) (hv:∀x ∈ l,0≤x∧x≤10):∀(suf pre:List Int),l=pre++suf →
    Ev (fun k=>impl_rowText.l0 k ((pre.map numT).map ba) l (l.length:Int) (pre.length:Int)) (ba (rowT l)):=by
  intro suf
  induction suf with
  |nil =>
    intro pre h
    rw [List.append_nil] at h
    subst h
    refine ev_suc ?_
    simp only [impl_rowText.l0]
    refine ev_neg (by omega) ?_
    match l,h1 with
    |n :: t,_ =>
      have hj:Lib.join ((((n :: t).map numT).map ba).map (·.data.toList)) (⟨#[44]⟩:ByteArray).data.toList=rowT (n :: t):=by
        rw [List.map_map,show ((fun x:ByteArray=>x.data.toList) ∘ ba)=id from rfl,List.map_id]
        exact join_rowT t n
      have hr:=rowT_len (n :: t) hv
      unfold strings_Join.f
      rw [hj,if_pos ⟨by simp at hl ⊢;omega,by omega⟩]
      exact ev_bind (Ev.now _) (Ev.now _)
  |cons x t ih =>
    intro pre h
    have e:l.length=pre.length+(t.length+1):=by rw [h];simp
    have hx:rd l (pre.length:Int)=x:=by rw [h];exact rd_at _ _ _
    have hxv:=hv x (by rw [h];simp)
    refine ev_suc ?_
    simp only [impl_rowText.l0,hx,itoa_ev (n:=x) (by omega) (by omega),Option.bind_some]
    refine ev_pos (by omega) (ev_pos (by omega) (ev_pos (by omega) (ev_pos (by simp;omega) ?_)))
    rw [w64 (by omega) (by omega),len_at pre x]
    have:=ih (pre++[x]) (by rw [h];simp)
    simpa using this
theorem irow_ev (l:List Int) (h1:1≤l.length) (hl:l.length≤3) (hv:∀x ∈ l,0≤x∧x≤10):Ev (fun k=>impl_rowText.f k l) (ba (rowT l)):=by
  unfold impl_rowText.f
  exact irow_loop l hl h1 hv l [] rfl
theorem strNums_ba (l:List Int):strOfNums l=ba (l.map fun n=>UInt8.ofNat n.toNat):=by
  unfold strOfNums ba
  first|rfl|simp
theorem iplace_end (u:List Int) (s:Int) (w:List Int) (y:List Int) (x:Tx) (h:placeB u s w=true) (hy:strOfNums y=ba x) (hx:x.length≤7) :
    Ev (fun k=>(impl_rowText.f k u).bind fun t1=>if t1.size+1≤9223372036854775807 then (strconv_Itoa.f s).bind fun t2=>if (t1++(⟨#[32]⟩:ByteArray)).size+t2.size≤9223372036854775807 then if ((t1++(⟨#[32]⟩:ByteArray))++t2).size+1≤9223372036854775807 then if (((t1++(⟨#[32]⟩:ByteArray))++t2)++(⟨#[32]⟩:ByteArray)).size+(strOfNums y).size≤9223372036854775807 then some ((((t1++(⟨#[32]⟩:ByteArray))++t2)++(⟨#[32]⟩:ByteArray))++strOfNums y) else none else none else none else none)
      (ba (rowT u++32 :: (numT s++32 :: x))):=by
  obtain ⟨a1,a2,a3,a4,a5,_,_⟩:=place_data h
  have hr:=rowT_len u a1
  obtain ⟨_,n1,n2⟩:=numT_bytes (n:=s) (by omega) (by omega)
  have e32:(⟨#[32]⟩:ByteArray)=ba [32]:=rfl
  rw [hy]
  refine ev_bind (irow_ev u a2 a3 a1) (ev_pos (by rw [ba_size];omega) ?_)
  rw [itoa_ev (n:=s) (by omega) (by omega)]
  simp only [Option.bind_some,e32,ba_append,ba_size]
  refine ev_pos (by simp;omega) (ev_pos (by simp;omega) (ev_pos (by simp;omega) (ev_eq (Ev.now _) ?_)))
  simp
theorem iplacew_loop (u:List Int) (s:Int) (w:List Int) (h:placeB u s w=true):∀(suf pre:List Int),w=pre++suf →
    Ev (fun k=>impl_PlaceText.l0 k (pre.map fun c=>(97+c) % 256) w (w.length:Int) (pre.length:Int) u s w) (ba (rowT u++32 :: (numT s++32 :: (wordT w)))):=by
  obtain ⟨_,_,_,_,_,hw,hl⟩:=place_data h
  intro suf
  induction suf with
  |nil =>
    intro pre e
    rw [List.append_nil] at e
    subst e
    refine ev_suc ?_
    simp only [impl_PlaceText.l0,List.length_map]
    refine ev_neg (by omega) ?_
    by_cases h0:(w.length:Int)=0
    · have e0:w=[]:=List.eq_nil_of_length_eq_zero (by omega)
      refine ev_pos h0 (ev_pos (by omega) ?_)
      subst e0
      simp only [Option.bind_some,List.map_nil,List.nil_append]
      exact iplace_end u s [] [46] [46] h rfl (by simp)
    · refine ev_neg h0 ?_
      have hne:w≠[]:=by rintro rfl;exact h0 rfl
      refine iplace_end u s w _ (wordT w) h ?_ (by have:=wordT_len w;omega)
      rw [strNums_ba,wordT,if_neg hne,ba_inj,List.map_map]
      refine List.map_congr_left fun c hc=>?_
      have:=hw c hc
      show UInt8.ofNat (((97+c) % 256).toNat)=letT c
      unfold letT
      congr 1
      omega
  |cons c t ih =>
    intro pre e
    have el:w.length=pre.length+(t.length+1):=by rw [e];simp
    have hc:rd w (pre.length:Int)=c:=by rw [e];exact rd_at _ _ _
    have hcv:=hw c (by rw [e];simp)
    refine ev_suc ?_
    simp only [impl_PlaceText.l0,hc,List.length_map]
    refine ev_pos (by omega) (ev_pos (by omega) (ev_pos (by omega) (ev_pos (by omega) ?_)))
    rw [w64 (n:=97+c) (by omega) (by omega),w64 (by omega) (by omega),len_at pre c]
    have:=ih (pre++[c]) (by rw [e];simp)
    simpa using this
theorem iplacet_ev (u:List Int) (s:Int) (w:List Int) (hu:(u.length:Int)≤1000000000000) (hw:(w.length:Int)≤1000000000000):Ev (fun k=>impl_PlaceText.f k u s w) (ba (placeT u s w)):=by
  unfold impl_PlaceText.f placeT
  refine ev_bind (implPlace_ev u s w hu hw) ?_
  by_cases h:placeB u s w=true
  case neg=>rw [if_neg h];exact ev_neg h (Ev.now _)
  rw [if_pos h]
  exact ev_pos h (iplacew_loop u s w h w [] rfl)
theorem iputin_ev (u:List Int) (a b:Int) (hu:(u.length:Int)≤1000000):Ev (fun k=>impl_PutIn.f k u a b) (putM u a b):=by
  have hT:Ev (fun k=>impl_PutIn.j0 k u a b true) ([],false):=ev_suc (by simp only [impl_PutIn.j0];exact ev_pos trivial (Ev.now _))
  unfold impl_PutIn.f
  refine ev_bind (implUrnOk_ev u (by omega)) ?_
  by_cases h:urnB u=true
  case neg =>
    refine ev_neg h (ev_eq hT ?_)
    unfold putM;rw [if_neg (fun k=>h k.1)]
  refine ev_pos h ?_
  by_cases h1:a<0
  · refine ev_pos h1 (ev_eq hT ?_)
    unfold putM;rw [if_neg (fun k=>by omega)]
  refine ev_neg h1 ?_
  by_cases h2:a≥(u.length:Int)
  · refine ev_pos h2 (ev_eq hT ?_)
    unfold putM;rw [if_neg (fun k=>by omega)]
  refine ev_neg h2 ?_
  by_cases h3:b>40
  · refine ev_pos h3 (ev_eq hT ?_)
    unfold putM;rw [if_neg (fun k=>by omega)]
  refine ev_neg h3 ?_
  by_cases h4:b < -40
  · rw [decide_eq_true h4]
    refine ev_eq hT ?_
    unfold putM;rw [if_neg (fun k=>by omega)]
  rw [decide_eq_false h4]
  refine ev_suc ?_
  simp only [impl_PutIn.j0]
  have hs:=urn_small h (i:=a) (by omega) (by omega)
  refine ev_neg (by simp) ?_
  rw [clone_eq u (by omega)]
  refine ev_bind (Ev.now _) (ev_pos (by omega) (ev_pos (by omega) ?_))
  rw [w64 (by omega) (by omega)]
  refine ev_bind (Ev.now _) (ev_bind (implUrnOk_ev _ (by simp;omega)) ?_)
  by_cases h5:urnB (u.set a.toNat (rd u a+b))=true
  · refine ev_pos h5 (ev_now ?_)
    unfold putM;rw [if_pos ⟨h,by omega,by omega,h5⟩]
  · refine ev_neg h5 (ev_now ?_)
    unfold putM;rw [if_neg (fun k=>h5 k.2.2.2)]
theorem icopy_loop (u:List Int) (s:Int) (w:List Int) (a:List S30) (hl:a.length≤1000) (hA:∀q ∈ a,Sized1 q):∀(x p:List S30),a=p++x →
    Ev (fun k=>impl_copyDesk.l0 k a (a.length:Int) (p.length:Int) u s w p) (u,s,w,a):=by
  intro x
  induction x with
  |nil =>
    intro p h
    rw [List.append_nil] at h
    subst h
    refine ev_suc ?_
    simp only [impl_copyDesk.l0]
    exact ev_neg (by omega) (Ev.now _)
  |cons q t ih =>
    intro p h
    have e:a.length=p.length+(t.length+1):=by rw [h];simp
    have hq:rd_T30 a (p.length:Int)=q:=by rw [h];exact rdP_at _ _ _
    have hs:=hA q (by rw [h];simp)
    refine ev_suc ?_
    simp only [impl_copyDesk.l0,hq]
    refine ev_pos (by omega) (ev_pos (by omega) (ev_pos (by omega) ?_))
    rw [copyPlace_eq q.f0 q.f1 q.f2 hs.1 hs.2]
    refine ev_bind (Ev.now _) (ev_pos (by omega) ?_)
    rw [w64 (by omega) (by omega)]
    have:=ih (p++[q]) (by rw [h];simp)
    have e2:((p++[q]).length:Int)=(p.length:Int)+1:=by simp
    rw [e2] at this
    exact this
theorem icopy_ev (u:List Int) (s:Int) (w:List Int) (a:List S30) (hu:(u.length:Int)≤1000000) (hw:(w.length:Int)≤1000000) (hl:a.length≤1000) (hA:∀q ∈ a,Sized1 q) :
    Ev (fun k=>impl_copyDesk.f k u s w a) (u,s,w,a):=by
  unfold impl_copyDesk.f
  rw [copyPlace_eq u s w (by omega) (by omega)]
  exact ev_bind (Ev.now _) (icopy_loop u s w a hl hA a [] rfl)
theorem ideskdo_ev (u:List Int) (s:Int) (w:List Int) (a:List S30) (x y z:Int) (hu:(u.length:Int)≤1000000) (hw:(w.length:Int)≤1000000) (hl:(a.length:Int)≤1000000) (hA:∀q ∈ a,Sized1 q) :
    Ev (fun k=>impl_DeskDo.f k u s w a x y z) (doM u s w a x y z):=by
  unfold impl_DeskDo.f
  refine ev_bind (implDesk_ev u s w a (by omega) (by omega) (by omega) hA) ?_
  by_cases hd:deskB u s w a=true
  case neg =>
    refine ev_neg hd (ev_now ?_)
    unfold doM;rw [if_neg hd]
  obtain ⟨d1,d2,d3,d4,d5⟩:=desk_data hd
  have hC:=icopy_ev u s w a hu hw (by omega) hA
  have hj2:∀(t:Bool) (u':List Int) (s':Int) (w':List Int),(u'.length:Int)≤1000→(w'.length:Int)≤1000 →
      Ev (fun k=>impl_DeskDo.j2 k t u s w a u s w a u' s' w' a) (if t=true then (u,s,w,a,false) else (u',s',w',pastM (a++[⟨u,s,w⟩]),true)):=by
    intro t u' s' w' g1 g2
    refine ev_suc ?_
    simp only [impl_DeskDo.j2]
    cases t with
    |true=>exact ev_pos rfl (Ev.now _)
    |false =>
      refine ev_neg (by simp) ?_
      rw [if_neg (by simp),copyPlace_eq u s w (by omega) (by omega)]
      have hm:∀q ∈ a++[(⟨u,s,w⟩:S30)],Sized1 q:=by
        intro q hq
        rcases List.mem_append.1 hq with hq|hq
        · exact hA q hq
        · obtain rfl:=List.mem_singleton.1 hq
          exact ⟨by simp only;omega,by simp only;omega⟩
      refine ev_bind (Ev.now _) (ev_pos (by omega) (ev_bind (Ev.now _) ?_))
      dsimp only
      unfold pastM
      by_cases h8:(a++[(⟨u,s,w⟩:S30)]).length>8
      · rw [if_pos h8]
        exact ev_pos (by omega) (ev_pos (by omega) (ev_bind (icopy_ev u' s' w' _ (by omega) (by omega) (by simp;omega) (fun q hq=>hm q (List.mem_of_mem_drop hq))) (Ev.now _)))
      · rw [if_neg h8]
        exact ev_neg (by omega) (ev_bind (icopy_ev u' s' w' _ (by omega) (by omega) (by simp at h8 ⊢;omega) hm) (Ev.now _))
  have hj1:∀(u':List Int) (s':Int) (w':List Int),(u'.length:Int)≤1000→(w'.length:Int)≤1000 →
      Ev (fun k=>impl_DeskDo.j1 k u s w a u s w a u' s' w' a) (takeM u s w a u' s' w'):=by
    intro u' s' w' g1 g2
    refine ev_suc ?_
    simp only [impl_DeskDo.j1]
    refine ev_bind (implPlace_ev u' s' w' (by omega) (by omega)) ?_
    by_cases hp:placeB u' s' w'=true
    · refine ev_pos hp (ev_bind (iplacet_ev u' s' w' (by omega) (by omega)) (ev_bind (iplacet_ev u s w (by omega) (by omega)) (ev_eq (hj2 _ u' s' w' g1 g2) ?_)))
      rw [toList_ba,toList_ba]
      unfold takeM
      by_cases he:u'=u∧s'=s∧w'=w
      · rw [if_pos ((text_same d4 u' s' w' hp).2 he),if_neg (fun k=>k.2 he)]
      · rw [if_neg (fun k=>he ((text_same d4 u' s' w' hp).1 k)),if_pos ⟨hp,he⟩]
    · refine ev_neg hp (ev_eq (hj2 true u' s' w' g1 g2) ?_)
      rw [if_pos rfl]
      unfold takeM;rw [if_neg (fun k=>hp k.1)]
  have hT:Ev (fun k=>impl_DeskDo.j0 k true u s w a x y z u s w a u s w a) (u,s,w,a,false):=ev_suc (by simp only [impl_DeskDo.j0];exact ev_pos trivial (Ev.now _))
  have hF:(x=0∨z=0∧(x≥3→y=0))→Ev (fun k=>impl_DeskDo.j0 k false u s w a x y z u s w a u s w a) (doM u s w a x y z):=by
    intro hz
    refine ev_suc ?_
    simp only [impl_DeskDo.j0]
    refine ev_neg (by simp) ?_
    by_cases x0:x=0
    · have hpl:=putM_len u y z
      refine ev_pos x0 (ev_bind (iputin_ev u y z hu) ?_)
      by_cases h1:(putM u y z).2=true
      · refine ev_pos h1 ?_
        by_cases h2:w=[]
        · have:=hj1 (putM u y z).1 s w (by omega) (by omega)
          subst h2
          exact ev_neg (by simp) (ev_eq this (doM_some (d:=((putM u y z).1,s,[])) hd (by omega) (by unfold madeM;rw [if_pos x0,if_pos ⟨h1,rfl⟩])).symm)
        · have:0<w.length:=List.length_pos_iff.2 h2
          exact ev_pos (by omega) (ev_eq (Ev.now _) (doM_none hd (by omega) (by unfold madeM;rw [if_pos x0,if_neg (fun k=>h2 k.2)])).symm)
      · exact ev_neg h1 (ev_eq (Ev.now _) (doM_none hd (by omega) (by unfold madeM;rw [if_pos x0,if_neg (fun k=>h1 k.1)])).symm)
    refine ev_neg x0 ?_
    obtain ⟨z0,hy⟩:z=0∧(x≥3→y=0):=by omega
    have hm:madeM u s w x y z=if x=1 then (if w=[] then some (u,y,[]) else none) else if x=2 then some (u,s,w++[y]) else if x=3∧y=0 then some (u,s,[]) else none:=by unfold madeM;rw [if_neg x0,if_pos z0]
    by_cases x1:x=1
    · refine ev_pos x1 ?_
      by_cases h2:w=[]
      · have:=hj1 u y w (by omega) (by omega)
        subst h2
        exact ev_neg (by simp) (ev_eq this (doM_some (d:=(u,y,[])) hd (by omega) (by rw [hm,if_pos x1,if_pos rfl])).symm)
      · have:0<w.length:=List.length_pos_iff.2 h2
        exact ev_pos (by omega) (ev_eq (Ev.now _) (doM_none hd (by omega) (by rw [hm,if_pos x1,if_neg h2])).symm)
    refine ev_neg x1 ?_
    by_cases x2:x=2
    · have:=hj1 u s (w++[y]) (by omega) (by simp;omega)
      exact ev_pos x2 (ev_pos (by omega) (ev_eq this (doM_some (d:=(u,s,w++[y])) hd (by omega) (by rw [hm,if_neg x1,if_pos x2])).symm))
    refine ev_neg x2 ?_
    by_cases x3:x=3
    · have:=hj1 u s [] (by omega) (by simp)
      exact ev_pos x3 (ev_eq this (doM_some (d:=(u,s,[])) hd (by omega) (by rw [hm,if_neg x1,if_neg x2,if_pos ⟨x3,hy (by omega)⟩])).symm)
    refine ev_neg x3 ?_
    by_cases x4:x=4
    · refine ev_pos x4 ?_
      rw [doM_back hd ⟨x4,hy (by omega),z0⟩,w64 (by omega) (by omega)]
      rcases hg:a.getLast? with _|q
      · have:a=[]:=List.getLast?_eq_none_iff.1 hg
        subst this
        exact ev_pos (by simp) (ev_eq (Ev.now _) (by simp [backM]))
      · obtain ⟨t,rfl⟩:∃t,a=t++[q]:=⟨_,last_split hg⟩
        have el:(t++[q]).length=t.length+1:=by simp
        have ej:(((t++[q]).length:Int) - 1)=(t.length:Int):=by omega
        have hq:rd_T30 (t++[q]) (t.length:Int)=q:=rdP_at _ _ _
        have ht:(t++[q]).take ((t.length:Int)).toNat=t:=by simp
        have hP:impl_Place.f t=some t:=by
          unfold impl_Place.f
          rw [if_pos (by omega),if_pos (by omega)]
          simp
        have hb:backM u s w (t++[q])=(q.f0,q.f1,q.f2,t,true):=by simp [backM]
        rw [ej,hb,ht,hq,hP]
        exact ev_neg (by omega) (ev_pos (by omega) (ev_pos (by omega) (ev_pos (by omega) (ev_bind (Ev.now _) (Ev.now _)))))
    · exact ev_neg x4 (ev_eq (Ev.now _) (doM_none hd (fun k=>x4 k.1) (by rw [hm,if_neg x1,if_neg x2,if_neg (fun k=>x3 k.1)])).symm)
  have hN:x≠0→(z≠0∨x≥3∧y≠0)→doM u s w a x y z=(u,s,w,a,false):=by
    intro x0 h
    refine doM_none hd (by omega) ?_
    unfold madeM
    rw [if_neg x0]
    by_cases z0:z=0
    · rw [if_pos z0,if_neg (by omega),if_neg (by omega),if_neg (fun k=>by omega)]
    · rw [if_neg z0]
  refine ev_pos hd (ev_bind hC (ev_bind hC ?_))
  by_cases x0:x=0
  · exact ev_pos x0 (ev_neg (by omega) (hF (.inl x0)))
  refine ev_neg x0 ?_
  by_cases z0:z=0
  · refine ev_pos z0 ?_
    by_cases x3:x≥3
    · refine ev_pos x3 ?_
      by_cases y0:y=0
      · have:(y != 0)=false:=by simp [y0]
        rw [this]
        exact hF (.inr ⟨z0,fun _=>y0⟩)
      · have:(y != 0)=true:=by simp [y0]
        rw [this,hN x0 (.inr ⟨x3,y0⟩)]
        exact hT
    · exact ev_neg x3 (hF (.inr ⟨z0,fun h=>absurd h x3⟩))
  · refine ev_neg z0 ?_
    rw [hN x0 (.inl z0)]
    exact hT
theorem idoall_loop (l:List S41) (hl:l.length≤1048576):∀(x p:List S41),l=p++x→∀(n:Int),0≤n→n≤p.length→∀(u:List Int) (s:Int) (w:List Int) (a:List S30),deskB u s w a=true →
    Ev (fun k=>impl_doAll.l0 k n l (l.length:Int) (p.length:Int) u s w a) ((runM x u s w a).1,(runM x u s w a).2.1,(runM x u s w a).2.2.1,(runM x u s w a).2.2.2.1,n+((runM x u s w a).2.2.2.2:Int)):=by
  intro x
  induction x with
  |nil =>
    intro p h n h0 h1 u s w a hF
    rw [List.append_nil] at h
    subst h
    refine ev_suc ?_
    simp only [impl_doAll.l0,runM]
    exact ev_neg (by omega) (ev_now (by simp))
  |cons d t ih =>
    intro p h n h0 h1 u s w a hF
    have e:l.length=p.length+(t.length+1):=by rw [h];simp
    have hd:rd_T41 l (p.length:Int)=d:=by rw [h];simp [rd_T41]
    obtain ⟨z1,z2,z3,z4⟩:=desk_sized hF
    have hv:=ideskdo_ev u s w a d.f0 d.f1 d.f2 z1 z2 z3 z4
    have ew:wrap64 ((p.length:Int)+1)=((p++[d]).length:Int):=by rw [w64 (by omega) (by omega)];simp
    refine ev_suc ?_
    simp only [impl_doAll.l0,hd,ew]
    refine ev_pos (by omega) (ev_pos (by omega) (ev_pos (by omega) (ev_bind hv ?_)))
    by_cases ho:(doM u s w a d.f0 d.f1 d.f2).2.2.2.2=true
    · refine ev_pos ho ?_
      rw [w64 (by omega) (by omega)]
      refine ev_eq (ih (p++[d]) (by rw [h];simp) (n+1) (by omega) (by simp;omega) _ _ _ _ (doM_desk hF _ _ _)) ?_
      rw [runM,if_pos ho]
      simp only [Prod.mk.injEq,true_and]
      omega
    · refine ev_neg ho ?_
      refine ev_eq (ih (p++[d]) (by rw [h];simp) n h0 (by simp;omega) u s w a hF) ?_
      rw [runM,if_neg ho]
theorem idoall_ev (l:List S41) (hl:l.length≤1048576) (u:List Int) (s:Int) (w:List Int) (a:List S30) (hF:deskB u s w a=true) :
    Ev (fun k=>impl_doAll.f k u s w a l) ((runM l u s w a).1,(runM l u s w a).2.1,(runM l u s w a).2.2.1,(runM l u s w a).2.2.2.1,((runM l u s w a).2.2.2.2:Int)):=by
  obtain ⟨z1,z2,z3,z4⟩:=desk_sized hF
  unfold impl_doAll.f
  refine ev_bind (icopy_ev u s w a z1 z2 (by have:=(desk_data hF).2.2.1;omega) z4) ?_
  exact ev_eq (idoall_loop l hl l [] rfl 0 (by omega) (by simp) u s w a hF) (by simp)
/-- A run, where the desk is one and the deeds are not too many. -/
def runF (u:List Int) (s:Int) (w:List Int) (a:List S30) (l:List S41):List Int×Int×List Int×List S30×Int :=
  if deskB u s w a=true∧l.length≤40 then ((runM l u s w a).1,(runM l u s w a).2.1,(runM l u s w a).2.2.1,(runM l u s w a).2.2.2.1,((runM l u s w a).2.2.2.2:Int)) else ([],0,[],[],0)
theorem irunF_ev (u:List Int) (s:Int) (w:List Int) (a:List S30) (l:List S41) (hu:(u.length:Int)≤1000000) (hw:(w.length:Int)≤1000000) (hl:(a.length:Int)≤1000000) (hA:∀q ∈ a,Sized1 q) :
    Ev (fun k=>impl_DeskRun.f k u s w a l) (runF u s w a l):=by
  unfold impl_DeskRun.f
  refine ev_bind (implDesk_ev u s w a (by omega) (by omega) (by omega) hA) ?_
  by_cases hd:deskB u s w a=true
  case neg =>
    refine ev_neg hd (ev_now ?_)
    unfold runF;rw [if_neg (fun k=>hd k.1)]
  refine ev_pos hd ?_
  by_cases h:l.length≤40
  · refine ev_neg (by omega) (ev_bind (idoall_ev l (by omega) u s w a hd) (ev_now ?_))
    unfold runF;rw [if_pos ⟨hd,h⟩]
  · refine ev_pos (by omega) (ev_now ?_)
    unfold runF;rw [if_neg (fun k=>h k.2)]
/-- A desk's place and those of before, out of what tells more. -/
abbrev d4 {β:Type} (r:List Int×Int×List Int×List S30×β):List Int×Int×List Int×List S30:=(r.1,r.2.1,r.2.2.1,r.2.2.2.1)
theorem runM_one (e:S41) (u:List Int) (s:Int) (w:List Int) (a:List S30):runM [e] u s w a=if (doM u s w a e.f0 e.f1 e.f2).2.2.2.2=true then ((doM u s w a e.f0 e.f1 e.f2).1,(doM u s w a e.f0 e.f1 e.f2).2.1,(doM u s w a e.f0 e.f1 e.f2).2.2.1,(doM u s w a e.f0 e.f1 e.f2).2.2.2.1,1) else (u,s,w,a,0):=by
  rw [runM]
  split
  · simp [runM]
  · simp [runM]
theorem runM_snoc (l:List S41) (e:S41) (u:List Int) (s:Int) (w:List Int) (a:List S30):d4 (runM (l++[e]) u s w a) =
    if (doM (runM l u s w a).1 (runM l u s w a).2.1 (runM l u s w a).2.2.1 (runM l u s w a).2.2.2.1 e.f0 e.f1 e.f2).2.2.2.2=true then d4 (doM (runM l u s w a).1 (runM l u s w a).2.1 (runM l u s w a).2.2.1 (runM l u s w a).2.2.2.1 e.f0 e.f1 e.f2) else d4 (runM l u s w a):=by
  rw [runM_append,runM_one]
  split<;>rfl
theorem sameDeeds_loop (l:List S41) (hl:l.length≤1048577):∀(suf pre:List S41),l=pre++suf→Ev (fun k=>laws_sameDeeds.l0 k l l (pre.length:Int)) true:=by
  intro suf
  induction suf with
  |nil =>
    intro pre h
    rw [List.append_nil] at h
    subst h
    refine ev_suc ?_
    simp only [laws_sameDeeds.l0]
    exact ev_neg (by omega) (Ev.now _)
  |cons x t ih =>
    intro pre h
    have e:l.length=pre.length+(t.length+1):=by rw [h];simp
    refine ev_suc ?_
    simp only [laws_sameDeeds.l0]
    refine ev_pos (by omega) (ev_pos (by omega) (ev_pos (by omega) (ev_neg (by simp) ?_)))
    rw [w64 (by omega) (by omega),len_at pre x]
    exact ih (pre++[x]) (by rw [h];simp)
theorem sameDeeds_ev (l:List S41) (hl:l.length≤1048577):Ev (fun k=>laws_sameDeeds.f k l l) true:=by
  unfold laws_sameDeeds.f
  exact ev_pos rfl (sameDeeds_loop l hl l [] rfl)
theorem sameInts_loop (a b:List Int) (hl:(a.length:Int)≤1000000000000) (hab:a.length=b.length):∀(s t p q:List Int),a=p++s→b=q++t→p.length=q.length →
    ∃v,Ev (fun k=>laws_sameInts.l0 k a b (p.length:Int)) v∧(v=true ↔ s=t):=by
  intro s
  induction s with
  |nil =>
    intro t p q h h' hpq
    have e:a.length=p.length:=by rw [h];simp
    have e':b.length=q.length+t.length:=by rw [h'];simp
    have:t=[]:=List.eq_nil_of_length_eq_zero (by omega)
    subst this
    refine ⟨true,ev_suc ?_,by simp⟩
    simp (disch:=omega) only [laws_sameInts.l0,if_neg]
    exact Ev.now _
  |cons x s ih =>
    intro t p q h h' hpq
    have e:a.length=p.length+(s.length+1):=by rw [h];simp
    have e':b.length=q.length+t.length:=by rw [h'];simp
    cases t with
    |nil=>simp at e';omega
    |cons y t =>
      have hx:rd a (p.length:Int)=x:=by rw [h];exact rd_at _ _ _
      have hy:rd b (p.length:Int)=y:=by rw [h',hpq];exact rd_at _ _ _
      by_cases hxy:x=y
      · obtain ⟨v,hv,hv'⟩:=ih t (p++[x]) (q++[y]) (by rw [h];simp) (by rw [h'];simp) (by simp [hpq])
        refine ⟨v,ev_suc ?_,by rw [hv'];simp [hxy]⟩
        simp (disch:=omega) only [laws_sameInts.l0,hx,hy,if_pos,w64]
        rw [len_at p x]
        exact hv
      · refine ⟨false,ev_suc ?_,by simp [hxy]⟩
        simp (disch:=omega) only [laws_sameInts.l0,hx,hy,if_pos,w64]
        exact ev_neg hxy (Ev.now _)
theorem sameInts_ev (a b:List Int) (hl:(a.length:Int)≤1000000000000):∃v,Ev (fun k=>laws_sameInts.f k a b) v∧(v=true ↔ a=b):=by
  by_cases h:(a.length:Int)=(b.length:Int)
  · obtain ⟨v,hv,hv'⟩:=sameInts_loop a b hl (by omega) a b [] [] rfl rfl rfl
    refine ⟨v,?_,hv'⟩
    simp only [laws_sameInts.f]
    exact ev_pos h hv
  · refine ⟨false,?_,by simp;rintro rfl;exact h rfl⟩
    simp only [laws_sameInts.f]
    exact ev_neg h (Ev.now _)
theorem samePlace_ev (u:List Int) (s:Int) (w u':List Int) (s':Int) (w':List Int) (hu:(u.length:Int)≤1000000000000) (hw:(w.length:Int)≤1000000000000) :
    ∃v,Ev (fun k=>laws_samePlace.f k u s w u' s' w') v∧(v=true ↔ u=u'∧s=s'∧w=w'):=by
  obtain ⟨v1,e1,h1⟩:=sameInts_ev u u' hu
  obtain ⟨v2,e2,h2⟩:=sameInts_ev w w' hw
  cases v1 with
  |false =>
    refine ⟨false,?_,by simp;intro h;exact absurd (h1.2 h) (by simp)⟩
    simp only [laws_samePlace.f]
    exact ev_bind e1 (ev_neg (by simp) (Ev.now _))
  |true =>
    by_cases hs:s=s'
    · refine ⟨v2,?_,by rw [h2];simp [hs,h1.1 rfl]⟩
      simp only [laws_samePlace.f]
      exact ev_bind e1 (ev_pos rfl (ev_pos hs (ev_bind e2 (Ev.now _))))
    · refine ⟨false,?_,by simp [hs]⟩
      simp only [laws_samePlace.f]
      exact ev_bind e1 (ev_pos rfl (ev_neg hs (Ev.now _)))
theorem sameDesk_loop (u:List Int) (s:Int) (w u':List Int) (s':Int) (w':List Int) (a b:List S30) (hl:(a.length:Int)≤1000000000000) (hA:∀q ∈ a,Sized1 q) (hab:a.length=b.length):∀(x y p q:List S30),a=p++x→b=q++y→p.length=q.length →
    ∃v,Ev (fun k=>laws_sameDesk.l0 k (p.length:Int) u s w a u' s' w' b) v∧(v=true ↔ x=y):=by
  intro x
  induction x with
  |nil =>
    intro y p q h h' hpq
    have e:a.length=p.length:=by rw [h];simp
    have e':b.length=q.length+y.length:=by rw [h'];simp
    have:y=[]:=List.eq_nil_of_length_eq_zero (by omega)
    subst this
    refine ⟨true,ev_suc ?_,by simp⟩
    simp (disch:=omega) only [laws_sameDesk.l0,if_neg]
    exact Ev.now _
  |cons c x ih =>
    intro y p q h h' hpq
    have e:a.length=p.length+(x.length+1):=by rw [h];simp
    have e':b.length=q.length+y.length:=by rw [h'];simp
    cases y with
    |nil=>simp at e';omega
    |cons d y =>
      have hx:rd_T30 a (p.length:Int)=c:=by rw [h];exact rdP_at _ _ _
      have hy:rd_T30 b (p.length:Int)=d:=by rw [h',hpq];exact rdP_at _ _ _
      have hc:=hA c (by rw [h];simp)
      obtain ⟨v1,e1,h1⟩:=samePlace_ev c.f0 c.f1 c.f2 d.f0 d.f1 d.f2 hc.1 hc.2
      have hcd:v1=true ↔ c=d:=by
        rw [h1]
        constructor
        · rintro ⟨k1,k2,k3⟩;cases c;cases d;simp_all
        · rintro rfl;exact ⟨rfl,rfl,rfl⟩
      obtain ⟨v,hv,hv'⟩:=ih y (p++[c]) (q++[d]) (by rw [h];simp) (by rw [h'];simp) (by simp [hpq])
      cases v1 with
      |true =>
        refine ⟨v,ev_suc ?_,by rw [hv'];simp [hcd.1 rfl]⟩
        simp (disch:=omega) only [laws_sameDesk.l0,hx,hy,if_pos,w64]
        refine ev_bind e1 (ev_pos rfl ?_)
        rw [len_at p c]
        exact hv
      |false =>
        refine ⟨false,ev_suc ?_,by simp;intro h;exact absurd (hcd.2 h) (by simp)⟩
        simp (disch:=omega) only [laws_sameDesk.l0,hx,hy,if_pos,w64]
        exact ev_bind e1 (ev_neg (by simp) (Ev.now _))
theorem sameDesk_ev (u:List Int) (s:Int) (w:List Int) (a:List S30) (u':List Int) (s':Int) (w':List Int) (b:List S30) (hu:(u.length:Int)≤1000000000000) (hw:(w.length:Int)≤1000000000000) (hl:(a.length:Int)≤1000000000000) (hA:∀q ∈ a,Sized1 q) :
    ∃v,Ev (fun k=>laws_sameDesk.f k u s w a u' s' w' b) v∧(v=true ↔ (u=u'∧s=s'∧w=w')∧a=b):=by
  obtain ⟨v1,e1,h1⟩:=samePlace_ev u s w u' s' w' hu hw
  cases v1 with
  |false =>
    refine ⟨false,?_,by simp;intro k1 k2 k3;exact absurd (h1.2 ⟨k1,k2,k3⟩) (by simp)⟩
    simp only [laws_sameDesk.f]
    refine ev_bind e1 (ev_neg (by simp) (ev_suc ?_))
    simp only [laws_sameDesk.j0,if_true]
    exact Ev.now _
  |true =>
    by_cases h:(a.length:Int)=(b.length:Int)
    · obtain ⟨v,hv,hv'⟩:=sameDesk_loop u s w u' s' w' a b hl hA (by omega) a b [] [] rfl rfl rfl
      refine ⟨v,?_,by rw [hv'];simp [h1.1 rfl]⟩
      simp only [laws_sameDesk.f]
      have e:((a.length:Int) != (b.length:Int))=false:=by simp [h]
      refine ev_bind e1 (ev_pos rfl (ev_suc ?_))
      simp only [laws_sameDesk.j0,e]
      exact ev_neg (by simp) hv
    · refine ⟨false,?_,by simp;rintro _ _ _ rfl;exact h rfl⟩
      simp only [laws_sameDesk.f]
      have e:((a.length:Int) != (b.length:Int))=true:=by simpa [bne_iff_ne] using h
      refine ev_bind e1 (ev_pos rfl (ev_suc ?_))
      simp only [laws_sameDesk.j0,e,if_true]
      exact Ev.now _
theorem same_ev {u:List Int} (s:Int) {w:List Int} {a:List S30} (h:(u.length:Int)≤1000000∧(w.length:Int)≤1000000∧(a.length:Int)≤1000000∧∀q ∈ a,Sized1 q):Ev (fun k=>laws_sameDesk.f k u s w a u s w a) true:=by
  obtain ⟨v,hv,hv'⟩:=sameDesk_ev u s w a u s w a (by omega) (by omega) (by omega) h.2.2.2
  obtain rfl:=hv'.2 ⟨⟨rfl,rfl,rfl⟩,rfl⟩
  exact hv
theorem alive_ev:Ev (fun k=>laws_alive.f k) true:=Ev.of laws_alive.mono (k:=5) (by decide +kernel)
theorem doM_not {u:List Int} {s:Int} {w:List Int} {a:List S30} (h:deskB u s w a=true) (x y z:Int) (hn:¬(doM u s w a x y z).2.2.2.2=true):d4 (doM u s w a x y z)=(u,s,w,a):=by
  revert hn
  unfold doM
  rw [if_pos h]
  split
  · unfold backM
    split
    · intro hn;simp at hn
    · intro _;rfl
  · split
    · unfold takeM
      split
      · intro hn;simp at hn
      · intro _;rfl
    · intro _;rfl
theorem iline_ev {u:List Int} {s:Int} {w:List Int} {a:List S30} (h:deskB u s w a=true) (p b c:Int) (hd:deedT p b c≠[]):∃r:Tx,Ev (fun k=>impl_DeskLine.f k u s w a (ba (deedT p b c))) ((doM u s w a p b c).1,(doM u s w a p b c).2.1,(doM u s w a p b c).2.2.1,(doM u s w a p b c).2.2.2.1,ba r)∧(r=[111,107]∨r=[110,111,116]):=by
  obtain ⟨z1,z2,z3,z4⟩:=desk_sized h
  have hl:=deed_len p b c
  have e1:=implDesk_ev u s w a (by omega) (by omega) (by omega) z4
  rw [h] at e1
  have e2:=iread_ev (deedT p b c) (by omega)
  rw [readD_of rfl hd] at e2
  have e3:=ideskdo_ev u s w a p b c z1 z2 z3 z4
  by_cases hk:(doM u s w a p b c).2.2.2.2=true
  · refine ⟨[111,107],?_,.inl rfl⟩
    unfold impl_DeskLine.f
    exact ev_bind e1 (ev_pos rfl (ev_bind e2 (ev_pos rfl (ev_bind e3 (ev_pos hk (Ev.now _))))))
  · refine ⟨[110,111,116],?_,.inr rfl⟩
    unfold impl_DeskLine.f
    exact ev_bind e1 (ev_pos rfl (ev_bind e2 (ev_pos rfl (ev_bind e3 (ev_neg hk (Ev.now _))))))
theorem sdeskB_ev (u:List Int) (s:Int) (w:List Int) (a:List S30) (z1:(u.length:Int)≤1000000) (z2:(w.length:Int)≤1000000) (z3:(a.length:Int)≤1000000) (z4:∀q ∈ a,Sized1 q):Ev (fun k=>spec_DeskOk.f k u s w a) (deskB u s w a):=by
  unfold spec_DeskOk.f
  exact specDesk_loop u s w a (by omega) (by omega) (by omega) z4 _ [] rfl (by simp)
theorem rj_end (x:Tx) (hx:x.length≤100) (i:Int) (u:List Int) (s:Int) (w:List Int) (a:List S30) (z1:(u.length:Int)≤1000000) (z2:(w.length:Int)≤1000000) (z3:(a.length:Int)≤1000000) (z4:∀q ∈ a,Sized1 q)
    (u1:List Int) (s1:Int) (w1:List Int) (a1:List S30) (hn:deskB u s w a=true→(u1,s1,w1,a1)=d4 (runM ((readJ x).1.map mkD) u s w a)) :
    Ev (fun k=>laws_FnReadJournal.j4 k (ba x) ((readJ x).1.map mkD) ((readJ x).2:Int) i false u s w a u1 s1 w1 a1) true:=by
  have hle:=readJ_le x
  obtain ⟨p1,p2⟩:=readJ_part x
  have hj:=readJ_len x
  have e1:=irunF_ev u s w a ((readJ x).1.map mkD) z1 z2 z3 z4
  have e2:=ijournal_ev ((readJ x).1.map mkD) (by rw [List.length_map];omega)
  have et:(((readJ x).1.map mkD).map triD)=(readJ x).1:=by
    rw [List.map_map]
    conv=>rhs;rw [←List.map_id (readJ x).1]
    exact List.map_congr_left fun y _=>rfl
  rw [et,journalT_all _ [] (readJ_deeds x),List.nil_append,←p1] at e2
  have e3:=sdeskB_ev u s w a z1 z2 z3 z4
  refine ev_suc ?_
  simp only [laws_FnReadJournal.j4]
  refine ev_neg (by simp) (ev_bind e1 (ev_pos (by rw [ba_size];omega) (ev_bind e2 (ev_pos (by omega) (ev_pos (by rw [ba_extract];simp) (ev_bind e3 ?_))))))
  by_cases hd:deskB u s w a=true
  case neg=>exact ev_neg hd (ev_bind alive_ev (Ev.now _))
  refine ev_pos hd ?_
  by_cases h4:((readJ x).1.map mkD).length≤40
  case neg=>exact ev_pos (by omega) (ev_bind alive_ev (Ev.now _))
  have hr:runF u s w a ((readJ x).1.map mkD)=((runM ((readJ x).1.map mkD) u s w a).1,(runM ((readJ x).1.map mkD) u s w a).2.1,(runM ((readJ x).1.map mkD) u s w a).2.2.1,(runM ((readJ x).1.map mkD) u s w a).2.2.2.1,((runM ((readJ x).1.map mkD) u s w a).2.2.2.2:Int)):=by
    unfold runF;rw [if_pos ⟨hd,h4⟩]
  have hs:=same_ev (runM ((readJ x).1.map mkD) u s w a).2.1 (desk_sized (runM_desk ((readJ x).1.map mkD) u s w a hd))
  have hh:=hn hd
  simp only [d4,Prod.mk.injEq] at hh
  obtain ⟨rfl,rfl,rfl,rfl⟩:=hh
  rw [hr]
  exact ev_neg (by omega) (ev_bind hs (ev_pos rfl (ev_bind alive_ev (Ev.now _))))
theorem rj_say (x:Tx) (hx:x.length≤100) (u:List Int) (s:Int) (w:List Int) (a:List S30) (hd:deskB u s w a=true):∀(t p:List (Int×Int×Int)),(readJ x).1=p++t→∀(u1:List Int) (s1:Int) (w1:List Int) (a1:List S30),(u1,s1,w1,a1)=d4 (runM (p.map mkD) u s w a) →
    Ev (fun k=>laws_FnReadJournal.l1 k (ba x) ((readJ x).1.map mkD) ((readJ x).2:Int) (p.length:Int) u s w a u1 s1 w1 a1) true:=by
  obtain ⟨z1,z2,z3,z4⟩:=desk_sized hd
  have e3:=sdeskB_ev u s w a z1 z2 z3 z4
  have hj:=readJ_len x
  intro t
  induction t with
  |nil =>
    intro p h u1 s1 w1 a1 hn
    rw [List.append_nil] at h
    refine ev_suc ?_
    simp only [laws_FnReadJournal.l1]
    exact ev_neg (by rw [List.length_map,h];omega) (rj_end x hx _ u s w a z1 z2 z3 z4 u1 s1 w1 a1 (fun _=>by rw [hn,h]))
  |cons e t ih =>
    intro p h u1 s1 w1 a1 hn
    have el:(readJ x).1.length=p.length+(t.length+1):=by rw [h];simp
    have hr:rd_T41 ((readJ x).1.map mkD) (p.length:Int)=mkD e:=by rw [h];simp [rd_T41]
    have hne:deedT e.1 e.2.1 e.2.2≠[]:=readJ_deeds x e (by rw [h];simp)
    have hD:=runM_desk (p.map mkD) u s w a hd
    have hn':=hn
    simp only [d4,Prod.mk.injEq] at hn'
    rw [←hn'.1,←hn'.2.1,←hn'.2.2.1,←hn'.2.2.2] at hD
    obtain ⟨r,e5,e6⟩:=iline_ev hD e.1 e.2.1 e.2.2 hne
    have hs:=runM_snoc (p.map mkD) (mkD e) u s w a
    rw [←hn,←hn'.1,←hn'.2.1,←hn'.2.2.1,←hn'.2.2.2] at hs
    have hnext:d4 (doM u1 s1 w1 a1 e.1 e.2.1 e.2.2)=d4 (runM ((p++[e]).map mkD) u s w a):=by
      rw [List.map_append,List.map_cons,List.map_nil,hs]
      split
      · rfl
      · rename_i hk;exact doM_not hD _ _ _ hk
    have:=ih (p++[e]) (by rw [h];simp) _ _ _ _ hnext
    rw [show ((p++[e]).length:Int)=(p.length:Int)+1 by simp] at this
    refine ev_suc ?_
    simp only [laws_FnReadJournal.l1]
    refine ev_pos (by rw [List.length_map];omega) (ev_bind e3 (ev_suc ?_))
    simp only [laws_FnReadJournal.j4,hr]
    refine ev_pos hd (ev_pos (by omega) (ev_pos (by rw [List.length_map];omega) (ev_bind (ideed_ev _ _ _) (ev_bind e5 ?_))))
    rw [w64 (by omega) (by omega)]
    simp only [toList_ba]
    rcases e6 with rfl|rfl
    · exact ev_pos rfl this
    · exact ev_neg (by simp) (ev_pos rfl this)
theorem rj_cut (x:Tx) (hx:x.length≤100) {m:List Int} (hw:∀y ∈ m,(Lit.int .u8 y).wf=true):∀(d:Nat) (i:Int),0≤i→i+d=x.length+1→Ev (fun k=>laws_FnReadJournal.l0 k m (ba x) ((readJ x).1.map mkD) ((readJ x).2:Int) i) true:=by
  intro d
  induction d with
  |zero =>
    intro i g1 g2
    obtain ⟨u,s,w,a,ds,hv,v1⟩:=drawDeskRun_ev hw
    obtain ⟨z1,z2,z3,z4⟩:=dfit_sized v1
    refine ev_suc ?_
    simp only [laws_FnReadJournal.l0,ba_size]
    refine ev_neg (by omega) (ev_bind hv ?_)
    by_cases hd:deskB u s w a=true
    · exact rj_say x hx u s w a hd _ [] rfl u s w a rfl
    · have e3:=sdeskB_ev u s w a z1 z2 z3 z4
      have hE:=rj_end x hx 0 u s w a z1 z2 z3 z4 u s w a (fun k=>absurd k hd)
      refine ev_suc ?_
      simp only [laws_FnReadJournal.l1]
      by_cases hl:(0:Int)<(((readJ x).1.map mkD).length:Int)
      · rw [Bool.eq_false_iff.2 hd] at e3
        exact ev_pos hl (ev_bind e3 hE)
      · exact ev_neg hl hE
  |succ d ih =>
    intro i g1 g2
    have hl:(x.take i.toNat).length=i.toNat:=by rw [List.length_take];omega
    have e2:=ireadj_ev (x.take i.toNat) (by omega)
    obtain ⟨n,hn⟩:=readJ_take _ x i.toNat (Nat.le_refl _)
    have l1:(readJ (x.take i.toNat)).1.length≤(readJ x).1.length:=by rw [hn,List.length_take];omega
    have hj:=readJ_len x
    have hle:=readJ_le (x.take i.toNat)
    have e5:=sameDeeds_ev ((readJ (x.take i.toNat)).1.map mkD) (by rw [List.length_map];omega)
    have hmn:mn ((((readJ (x.take i.toNat)).1.map mkD).length:Nat):Int) ((((readJ x).1.map mkD).length:Nat):Int)=((readJ (x.take i.toNat)).1.length:Int):=by
      rw [List.length_map,List.length_map];unfold mn;split<;>omega
    have htk:((readJ x).1.map mkD).take (readJ (x.take i.toNat)).1.length=(readJ (x.take i.toNat)).1.map mkD:=by
      rw [←List.map_take,hn];congr 1;rw [List.take_eq_take_iff,List.length_take];omega
    have ew:wrap64 (i+1)=i+1:=w64 (by omega) (by omega)
    have hi:=ih (i+1) (by omega) (by omega)
    refine ev_suc ?_
    simp only [laws_FnReadJournal.l0,ba_size]
    rw [ba_extract,List.drop_zero,Nat.sub_zero]
    refine ev_pos (by omega) (ev_pos g1 (ev_bind e2 (ev_neg (by rw [List.length_map,List.length_map];omega) ?_)))
    rw [hmn]
    refine ev_pos (by omega) (ev_pos (by rw [List.length_map];omega) ?_)
    rw [Int.toNat_natCast,htk,ew]
    exact ev_bind e5 (ev_pos rfl (ev_neg (by omega) hi))
end FnReadJournal_parts
open FnReadJournal_parts
theorem FnReadJournal:laws_FnReadJournal.Pure:=by
  intro l m _ hl2 hw _ hm2 hw'
  refine Ev.rounds ?_
  simp only [laws_FnReadJournal.f]
  by_cases h:(l.length:Int)>1048576
  · refine ev_pos h (ev_suc ?_)
    simp only [laws_FnReadJournal.j0]
    exact ev_pos (by first|trivial|rfl) (Ev.now _)
  refine ev_neg h (ev_suc ?_)
  simp only [laws_FnReadJournal.j0]
  by_cases h':(m.length:Int)>1048576
  · rw [decide_eq_true h']
    exact ev_pos rfl (Ev.now _)
  rw [decide_eq_false h']
  obtain ⟨x,hd,h1⟩:=drawJournal_ev hw
  have hj:=readJ_len x
  have e5:=sameDeeds_ev ((readJ x).1.map mkD) (by rw [List.length_map];omega)
  refine ev_neg (by simp) (ev_bind hd (ev_bind (ireadj_ev x (by omega)) (ev_bind (sreadj_ev x (by omega)) (ev_bind e5 (ev_pos rfl (ev_suc ?_))))))
  simp only [laws_FnReadJournal.j1]
  exact ev_neg (by simp) (rj_cut x h1 hw' (x.length+1) 0 (by omega) (by omega))
end Go.Proofs.YtabknkhhlbanoaaGreatDoor.Pure
