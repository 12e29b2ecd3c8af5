/-
  THE PLAIN LAW (part 3).
-/
import Derived.Test.YtipjpkpmkijdoabPl2
open Go Go.Eng
namespace Go.Proofs.Ytipjpkpmkijdoab.Law
set_option linter.unusedVariables false
set_option linter.unusedSimpArgs false
def or0 (a b:Int):Int:=bif a == 0 then b else a
theorem errs2 (a b:Int):law_errs [a,b]=some (or0 a b):=by
  unfold law_errs or0
  rw [forL_eq (by simp)]
  simp only [forR,law_errs_L1]
  cases ha:a == 0 with
  | false =>
    have:(a != 0)=true:=by simp [bne,ha]
    simp only [this,cond_true,cond_false,Option.bind_some,thenC]
  | true =>
    have:(a != 0)=false:=by simp [bne,ha]
    simp only [this,cond_true,cond_false,Option.bind_some]
    cases hb:b == 0 with
    | false =>
      have:(b != 0)=true:=by simp [bne,hb]
      simp only [this,cond_true,Option.bind_some,thenC]
    | true =>
      have:(b != 0)=false:=by simp [bne,hb]
      simp only [this,cond_false,Option.bind_some,thenC]
      rw [eq_of_beq hb]
theorem both_eq (x:List Spot) (c:List Campaign) (hx:∀ s∈x,GoodS s) (hc:∀ s∈c,GoodC s) (h1:x.length≤1000) (h2:c.length≤1000):booking_checkBoth x c=some (or0 (spotsF x) (campsF c)):=by
  unfold booking_checkBoth or0
  rw [spotsK x hx (by omega),campsK c hc (by omega)]
  simp only [Option.bind_some]
  cases h:spotsF x == 0 with
  | true => have : (spotsF x != 0) = false := by simp [bne, h]
            simp only [this,cond_false,cond_true]
  | false => have : (spotsF x != 0) = true := by simp [bne, h]
             simp only [this,cond_true,cond_false]
theorem spotStp_0 {last:ByteArray} {x:Spot} (h:spotStp last x=0):tagsF x.Tags=0:=by
  unfold spotStp at h
  generalize (badT x.Time || out x.Room 1000000)=q at h
  generalize sLe x.Key last=p at h
  generalize keyB x.Key=k at h
  cases k <;> cases p <;> cases q <;> first | (cases h; done) | exact h
theorem chk_spots:∀ (l:List Spot) (last:ByteArray),chk Spot.Key spotStp last l=0 → ∀ x∈l,tagsF x.Tags=0
  | [],_,_,x,hx=>by simp at hx
  | y::l,last,h,x,hx=>by
    rw [chk]at h
    cases he:spotStp last y == 0 with
    | false=>rw [he]at h; simp only [cond_false]at h; rw [h]at he; cases he
    | true =>
      rw [he]at h
      simp only [cond_true]at h
      rcases List.mem_cons.1 hx with rfl | hx
      · exact spotStp_0 (eq_of_beq he)
      · exact chk_spots l _ h x hx
theorem spotsF_0 {l:List Spot} (h:spotsF l=0):∀ x∈l,tagsF x.Tags=0:=by
  unfold spotsF at h
  by_cases hl:l.length > 60
  · rw [decide_eq_true hl]at h; cases h
  · rw [decide_eq_false hl]at h; exact chk_spots l _ h
theorem booked_ok:law_booked=some true:=by
  unfold law_booked booking_Due
  rw [campsK _ (by intro x hx; simp only [List.mem_singleton]at hx; subst hx; exact⟨short_lit rfl,short_lit rfl,by simp,by simp⟩) (by simp)]
  have:campsF [(⟨(⟨#[97]⟩:ByteArray),(⟨#[]⟩:ByteArray),(⟨0,100⟩:Window),([]:List ByteArray),10,0,0⟩:Campaign)]=0:=by decide +kernel
  rw [this]
  simp only [Option.bind_some]
  decide +kernel
theorem office_ok (s:Stream) (hs:Ok s 0):∃ x c e s',law_office s=some (x,c,e,s')∧(∀ y∈x,GoodS y)∧x.length≤5∧(∀ y∈c,GoodC y)∧c.length≤4∧e=or0 (spotsF x) (campsF c)∧Ok s' 400:=by
  obtain ⟨x,s1,h1,h2,h3,h4⟩:=spots_ok s hs (by decide)
  obtain ⟨c,s2,h5,h6,h7,h8⟩:=campaigns_ok s1 4 (by decide) h2 (by decide)
  refine⟨x,c,_,s2,?_,h4,h3,h8,h7,rfl,h6⟩
  simp only [law_office,h1,h5,spotsR x h4 (by omega),campsR c h8 (by omega),errs2,Option.bind_some]
end Go.Proofs.Ytipjpkpmkijdoab.Law

open Go Go.Eng Go.Flow
namespace Go.Proofs.Ytipjpkpmkijdoab.Law
set_option linter.unusedVariables false
set_option linter.unusedSimpArgs false
set_option linter.unusedSectionVars false
theorem cloneSp_eq (l:List Spot) (hl:l.length≤1000000000):slices_Clone_api_Spot_api_Spot l=some l:=by
 simp only [slices_Clone_api_Spot_api_Spot,appL,List.length_nil,Nat.zero_add,hl,if_true,Option.bind_some,List.nil_append]
theorem cloneCa_eq (l:List Campaign) (hl:l.length≤1000000000):slices_Clone_api_Campaign_api_Campaign l=some l:=by
 simp only [slices_Clone_api_Campaign_api_Campaign,appL,List.length_nil,Nat.zero_add,hl,if_true,Option.bind_some,List.nil_append]
theorem goals_eq {l:List Campaign} (hl:∀ c∈l,CampR c) (hm:l.length≤1000) (spots:List Spot):ref_goals l=some (netOf spots l).goals∧booking_goals l=some (netOf spots l).goals∧0≤(netOf spots l).goals∧(netOf spots l).goals≤10000000000:=by
 have hin:=sumI_in (fun _ (c:Campaign)=>c.Goal) 10000000 l 0 (fun j x hx=>⟨(hl x hx).1,(hl x hx).2.1⟩)
 have hS:sumI (fun _ (c:Campaign)=>c.Goal) 0 l=(netOf spots l).goals:=by
  unfold Net.goals
  exact sumI_S _ _ l 0 (fun i x hx=>by show x.Goal=_; rw [(goal_at hx).1])
 have hrun:forR (fun k x s=>ref_goals_L1 k x s) l 0 0=some (.go ((0:Int) + sumI (fun _ (c:Campaign)=>c.Goal) 0 l)):=forR_sum (fun _ c=>c.Goal) l 0 0 (by omega) (by omega) (fun j x hx=>by have:=hl x hx; unfold CampR at this; omega) (fun j x s hx hj h0 h1=>by
  have:=hl x hx
  unfold CampR at this
  unfold ref_goals_L1
  rw [w64_id (by omega)])
 have hrun2:forR (fun k x s=>booking_goals_L1 k x s) l 0 0=some (.go ((0:Int) + sumI (fun _ (c:Campaign)=>c.Goal) 0 l)):=hrun
 rw [hS]at hrun hrun2 hin
 refine⟨?_,?_,hin.1,?_⟩
 ·unfold ref_goals
  rw [forL_eq (by omega),hrun,Option.bind_some,thenC_go,Int.zero_add]
 ·unfold booking_goals
  rw [forL_eq (by omega),hrun2,Option.bind_some,thenC_go,Int.zero_add]
 ·have:=hin.2
  have h2:(l.length:Int)≤1000:=by omega
  omega
theorem cut_none (N:Net) (hr:N.Right):N.cutV (fun _=>false)≤N.goals:=by
 unfold Net.cutV Net.goals
 have h1:S N.m (fun k=>bif (fun _=>false) k then N.room k else 0)=0:=Net.S_all0 (fun k _=>rfl)
 have h2:S N.q (fun i=>min (N.goal i) (N.ways (fun _=>false) i))≤S N.q N.goal:=S_le (fun i _=>by omega)
 omega
theorem least_goals {N:Net} (hr:N.Right) {r:Int} (h:LeastCut N r):r≤N.goals∧(r=N.goals ↔ ∀ B,N.goals≤N.cutV B):=by
 obtain ⟨h1,B,h2⟩:=h
 have h3:=cut_none N hr
 have h4:=h1 (fun _=>false)
 refine⟨by omega,fun e B=>by rw [← e]; exact h1 B,fun h => ?_⟩
 have:=h B
 omega
theorem out_f {n hi:Int} (h:out n hi=false):0≤n∧n≤hi:=by
 unfold out at h
 simp only [Bool.or_eq_false_iff,decide_eq_false_iff_not]at h
 omega
theorem spotStp_room {last:ByteArray} {x:Spot} (h:spotStp last x=0):0≤x.Room∧x.Room≤1000000:=by
 unfold spotStp at h
 cases hk:keyB x.Key <;> cases hl:sLe x.Key last <;> cases ho:out x.Room 1000000 <;> cases hb:badT x.Time <;> rw [hk,hl,ho,hb]at h <;> first | (cases h; done) | exact out_f ho
theorem chk_room:∀ (l:List Spot) (last:ByteArray),chk Spot.Key spotStp last l=0 → ∀ x∈l,0≤x.Room∧x.Room≤1000000
 | [],_,_,x,hx=>by simp at hx
 | y::l,last,h,x,hx=>by
  rw [chk]at h
  cases he:spotStp last y == 0 with
  | false=>rw [he]at h; simp only [cond_false]at h; rw [h]at he; cases he
  | true =>
   rw [he]at h
   simp only [cond_true]at h
   rcases List.mem_cons.1 hx with rfl | hx
   ·exact spotStp_room (eq_of_beq he)
   ·exact chk_room l _ h x hx
theorem campStp_in {last:ByteArray} {c:Campaign} (h:campStp last c=0):0≤c.Goal∧c.Goal≤1000000∧0≤c.Most∧c.Most≤1000000:=by
 unfold campStp at h
 cases hk:(!keyB c.Key || (decide (c.Class.size≠0) && !keyB c.Class)) <;> rw [hk]at h <;> simp only [cond_true,cond_false]at h
 ·cases hl:sLe c.Key last <;> rw [hl]at h <;> simp only [cond_true,cond_false]at h
  ·cases ho:(badT c.Time || (out c.Goal 1000000 || (out c.Most 1000000 || out c.Cents 1000000000))) <;> rw [ho]at h <;> simp only [cond_true,cond_false]at h
   ·simp only [Bool.or_eq_false_iff]at ho
    have h1:=out_f ho.2.1
    have h2:=out_f ho.2.2.1
    omega
   ·cases h
  ·cases h
 ·cases h
theorem chk_camps:∀ (l:List Campaign) (last:ByteArray),chk Campaign.Key campStp last l=0 → ∀ x∈l,0≤x.Goal∧x.Goal≤1000000∧0≤x.Most∧x.Most≤1000000
 | [],_,_,x,hx=>by simp at hx
 | y::l,last,h,x,hx=>by
  rw [chk]at h
  cases he:campStp last y == 0 with
  | false=>rw [he]at h; simp only [cond_false]at h; rw [h]at he; cases he
  | true =>
   rw [he]at h
   simp only [cond_true]at h
   rcases List.mem_cons.1 hx with rfl | hx
   ·exact campStp_in (eq_of_beq he)
   ·exact chk_camps l _ h x hx
theorem office_right {x:List Spot} {c:List Campaign} (hx:∀ s∈x,GoodS s) (hc:∀ s∈c,GoodC s) (h1:x.length≤30) (h2:c.length≤30) (hs:spotsF x=0) (hcf:campsF c=0):Office x c:=by
 have e1:chk Spot.Key spotStp nilS x=0:=by
  unfold spotsF at hs
  rw [decide_eq_false (by omega)]at hs; exact hs
 have e2:chk Campaign.Key campStp nilS c=0:=by
  unfold campsF at hcf
  rw [decide_eq_false (by omega)]at hcf; exact hcf
 refine⟨spotsF_0 hs,fun s hm => ?_,fun o hm => ?_,h1,by omega⟩
 ·have:=chk_room x _ e1 s hm
  exact⟨this.1,by omega,by have:=(hx s hm).2.1; omega⟩
 ·have:=chk_camps c _ e2 o hm
  exact⟨this.1,by omega,this.2.2.1,by omega,by have:=(hc o hm).2.2.1; omega⟩
theorem or0_split {a b:Int} (h:or0 a b=0):a=0∧b=0:=by
 unfold or0 at h
 cases ha:a == 0 with
 | true=>rw [ha]at h; exact⟨eq_of_beq ha,h⟩
 | false =>
  rw [ha]at h
  have h:a=0:=h
  rw [h]at ha; cases ha
end Go.Proofs.Ytipjpkpmkijdoab.Law

open Go Go.Eng Go.Flow
namespace Go.Proofs.Ytipjpkpmkijdoab.Law
set_option linter.unusedVariables false
set_option linter.unusedSimpArgs false
set_option linter.unusedSectionVars false
theorem for_two {α σ ρ ρ':Type} {b1:Nat→α→σ→Option (Ctl σ ρ)} {b2:Nat→α→σ→Option (Ctl σ ρ')} (I:Nat→σ→Prop) (xs:List α):∀ (l:List α) (k:Nat) (s:σ),xs.drop k=l→k≤xs.length→(∀ k x s,xs[k]? = some x→I k s → ∃ s',b1 k x s=some (.go s')∧b2 k x s=some (.go s')∧I (k + 1) s')→I k s → ∃ s',forR b1 l k s=some (.go s')∧forR b2 l k s=some (.go s')∧I xs.length s'
 | [],k,s,hd,hk,h,hi=>by
  have:=List.drop_eq_nil_iff.1 hd
  obtain rfl:k=xs.length:=by omega
  exact⟨s,rfl,rfl,hi⟩
 | x::l,k,s,hd,hk,h,hi=>by
  obtain ⟨s1,h1,h1',h2⟩:=h k x s (drop_get hd) hi
  obtain ⟨s2,h3,h3',h4⟩:=for_two I xs l (k + 1) s1 (drop_next hd) (by have:=drop_lt hd; omega) h h2
  exact⟨s2,by rw [forR,h1,Option.bind_some]; exact h3,by rw [forR,h1',Option.bind_some]; exact h3',h4⟩
theorem forL_two {α σ ρ ρ':Type} {b1:Nat→α→σ→Option (Ctl σ ρ)} {b2:Nat→α→σ→Option (Ctl σ ρ')} (I:Nat→σ→Prop) {xs:List α} {s:σ} (hl:xs.length≤1000000000000) (h:∀ k x s,xs[k]? = some x→I k s → ∃ s',b1 k x s=some (.go s')∧b2 k x s=some (.go s')∧I (k + 1) s') (h0:I 0 s):∃ s',forL xs s b1=some (.go s')∧forL xs s b2=some (.go s')∧I xs.length s':=by
 rw [forL_eq hl,forL_eq hl]
 exact for_two I xs xs 0 s rfl (Nat.zero_le _) h h0
theorem containsC_eq (l:List Campaign) (f:Campaign→Option Bool) (p:Campaign→Bool) (hf:∀ x∈l,f x=some (p x)) (hl:l.length≤1000000):slices_ContainsFunc_api_Campaign_api_Campaign l f=some (l.any p):=by
 have run:∀ (xs:List Campaign) (k:Nat),(∀ x∈xs,f x=some (p x)) → ∃ o,forR (fun k x s=>slices_IndexFunc_api_Campaign_api_Campaign_L1 f k x s) xs k ()=some o ∧ ∃ r:Int,thenC o (fun _=>some (-1)) (fun r=>some r)=some r∧decide (r≥0)=xs.any p:=by
  intro xs
  induction xs with
  | nil=>exact fun k _=>⟨.go (),rfl,-1,rfl,by simp⟩
  | cons x xs ih =>
   intro k hf
   have hst:slices_IndexFunc_api_Campaign_api_Campaign_L1 f k x ()=some (bif p x then .ret (k:Int)else .go ()):=by
    simp only [slices_IndexFunc_api_Campaign_api_Campaign_L1,hf x (by simp),Option.bind_some]; cases p x <;> rfl
   rw [forR,hst,Option.bind_some]
   cases hp:p x with
   | true=>exact⟨_,rfl,_,rfl,by simp [hp]⟩
   | false =>
    simp only [cond_false]
    obtain ⟨o,h1,r,h2,h3⟩:=ih (k + 1) (fun y hy=>hf y (by simp [hy]))
    exact⟨o,h1,r,h2,by rw [h3]; simp [hp]⟩
 obtain ⟨o,h1,r,h2,h3⟩:=run l 0 hf
 unfold slices_ContainsFunc_api_Campaign_api_Campaign slices_IndexFunc_api_Campaign_api_Campaign
 rw [forL_eq (by omega),h1,Option.bind_some,h2,Option.bind_some,h3]
theorem containsP_eq (l:List Spot) (f:Spot→Option Bool) (p:Spot→Bool) (hf:∀ x∈l,f x=some (p x)) (hl:l.length≤1000000):slices_ContainsFunc_api_Spot_api_Spot l f=some (l.any p):=by
 have run:∀ (xs:List Spot) (k:Nat),(∀ x∈xs,f x=some (p x)) → ∃ o,forR (fun k x s=>slices_IndexFunc_api_Spot_api_Spot_L1 f k x s) xs k ()=some o ∧ ∃ r:Int,thenC o (fun _=>some (-1)) (fun r=>some r)=some r∧decide (r≥0)=xs.any p:=by
  intro xs
  induction xs with
  | nil=>exact fun k _=>⟨.go (),rfl,-1,rfl,by simp⟩
  | cons x xs ih =>
   intro k hf
   have hst:slices_IndexFunc_api_Spot_api_Spot_L1 f k x ()=some (bif p x then .ret (k:Int)else .go ()):=by
    simp only [slices_IndexFunc_api_Spot_api_Spot_L1,hf x (by simp),Option.bind_some]; cases p x <;> rfl
   rw [forR,hst,Option.bind_some]
   cases hp:p x with
   | true=>exact⟨_,rfl,_,rfl,by simp [hp]⟩
   | false =>
    simp only [cond_false]
    obtain ⟨o,h1,r,h2,h3⟩:=ih (k + 1) (fun y hy=>hf y (by simp [hy]))
    exact⟨o,h1,r,h2,by rw [h3]; simp [hp]⟩
 obtain ⟨o,h1,r,h2,h3⟩:=run l 0 hf
 unfold slices_ContainsFunc_api_Spot_api_Spot slices_IndexFunc_api_Spot_api_Spot
 rw [forL_eq (by omega),h1,Option.bind_some,h2,Option.bind_some,h3]
theorem equalB_self (xs:List ByteArray) (hl:xs.length≤1000000):slices_Equal_string_string xs xs=some true:=by
 unfold slices_Equal_string_string
 have e:((xs.length:Int) != (xs.length:Int))=false:=by simp
 rw [e]
 obtain ⟨s',h1,_⟩:=forL_ix (body:=fun k x s=>slices_Equal_string_string_L1 xs k x s) (fun _ _=>True) (xs:=xs) (s:=()) (by omega) (fun k x s hx _=>by
  unfold slices_Equal_string_string_L1
  rw [idx_nat,hx,Option.bind_some]
  refine⟨(),?_,trivial⟩
  simp [sNe]) trivial
 simp only [cond_false,h1,Option.bind_some,thenC_go]
theorem equalR_self (xs:List Pair) (hl:xs.length≤1000000):slices_Equal_api_Pair_api_Pair xs xs=some true:=by
 unfold slices_Equal_api_Pair_api_Pair
 have e:((xs.length:Int) != (xs.length:Int))=false:=by simp
 rw [e]
 obtain ⟨s',h1,_⟩:=forL_ix (body:=fun k x s=>slices_Equal_api_Pair_api_Pair_L1 xs k x s) (fun _ _=>True) (xs:=xs) (s:=()) (by omega) (fun k x s hx _=>by
  unfold slices_Equal_api_Pair_api_Pair_L1
  rw [idx_nat,hx,Option.bind_some]
  refine⟨(),?_,trivial⟩
  simp) trivial
 simp only [cond_false,h1,Option.bind_some,thenC_go]
section
variable {spots:List Spot} {l:List Campaign}
theorem office_less (h:Office spots l) {k:Nat} {s:Spot} (hk:spots[k]? = some s) (h0:0 < s.Room):Office (spots.set k (⟨s.Key,s.Time,s.Room - 1,s.Tags⟩:Spot)) l:=by
 have hm:=List.mem_of_getElem? hk
 have hr:=h.sr s hm
 refine⟨fun y hy => ?_,fun y hy => ?_,h.cr,by rw [List.length_set]; exact h.sn,h.ln⟩
 ·rcases List.mem_or_eq_of_mem_set hy with hy | hy
  ·exact h.tg y hy
  ·rw [hy]; exact h.tg s hm
 ·rcases List.mem_or_eq_of_mem_set hy with hy | hy
  ·exact h.sr y hy
  ·rw [hy]; exact⟨by show 0≤s.Room - 1; omega,by show s.Room - 1≤_; have:=hr.2.1; omega,hr.2.2⟩
theorem tight_ok (h:Office spots l) (hb:booking_checkBoth spots l=some 0):∃ t,booking_Tight spots l=some (t,0)∧ref_TightOf spots l=some t∧t.length≤spots.length:=by
 have hsn:=h.sn
 obtain ⟨v,m1,m2,m3,_⟩:=most_ok h
 obtain ⟨t,r1,r2,r3⟩:=forL_two (b1:=fun k x s=>booking_Tight_L1 spots l v k x s) (b2:=fun k x s=>ref_TightOf_L1 spots l v k x s) (fun k t=>t.length≤k) (xs:=spots) (s:=([]:List ByteArray)) (by omega) (fun k x t hk ht=>by
  have hkl:k < spots.length:=(List.getElem?_eq_some_iff.1 hk).1
  have hr:=h.sr x (List.mem_of_getElem? hk)
  have hw:w64 (x.Room - 1)=x.Room - 1:=w64_id (by have:=hr.1; have:=hr.2.1; omega)
  unfold booking_Tight_L1 ref_TightOf_L1
  simp only [cloneSp_eq spots (by omega),Option.bind_some,inR_at hkl,toN,hk,hw]
  by_cases h0:x.Room=0
  ·have e1:(x.Room == 0)=true:=by simp [h0]
   have e2:decide (x.Room > 0)=false:=decide_eq_false (by omega)
   rw [e1,e2]
   exact⟨t,rfl,rfl,by omega⟩
  ·have e1:(x.Room == 0)=false:=by simp [h0]
   have e2:decide (x.Room > 0)=true:=decide_eq_true (by have:=hr.1; omega)
   obtain ⟨v',m1',m2',_,_⟩:=most_ok (office_less h hk (by have:=hr.1; omega))
   have hap:appL t [x.Key]=some (t ++ [x.Key]):=appL_ok _ _ (by simp; omega)
   rw [e1,e2]
   simp only [cond_false,cond_true,m1',m2',Option.bind_some]
   cases decide (v' < v)
   ·exact⟨t,rfl,rfl,by omega⟩
   ·simp only [cond_true,hap,Option.bind_some]
    exact⟨_,rfl,rfl,by simp; omega⟩) (Nat.le_refl _)
 refine⟨t,?_,?_,r3⟩
 ·unfold booking_Tight
  simp only [hb,Option.bind_some,bne_self_eq_false,cond_false,m1]
  rw [r1,Option.bind_some,thenC_go]
 ·unfold ref_TightOf
  simp only [m2,Option.bind_some]
  rw [r2,Option.bind_some,thenC_go]
theorem rivals_ok (h:Office spots l) (hb:booking_checkBoth spots l=some 0):∃ t,booking_Rivals spots l=some (t,0)∧ref_RivalsOf spots l=some t∧t.length≤100 * 100:=by
 have hsn:=h.sn
 have hln:=h.ln
 obtain ⟨t,r1,r2,r3⟩:=forL_two (b1:=fun k x s=>booking_Rivals_L2 l spots k x s) (b2:=fun k x s=>ref_RivalsOf_L2 l spots k x s) (fun k (t:List Pair)=>t.length≤k * 100) (xs:=l) (s:=([]:List Pair)) (by omega) (fun k a t hk ht=>by
  have hkl:k < l.length:=(List.getElem?_eq_some_iff.1 hk).1
  have ha:=h.cr a (List.mem_of_getElem? hk)
  have hw:w64 ((k:Int) + 1)=((k + 1:Nat):Int):=by rw [w64_id (by omega)]; omega
  have hsub:subL l ((k + 1:Nat):Int) (l.length:Int)=some (l.drop (k + 1)):=by
   unfold subL
   rw [if_pos ⟨by omega,by omega,by omega⟩]
   simp
  obtain ⟨t',q1,q2,q3⟩:=forL_two (b1:=fun k x s=>booking_Rivals_L1 a spots k x s) (b2:=fun k x s=>ref_RivalsOf_L1 a spots k x s) (fun j (s:List Pair)=>s.length≤t.length + j) (xs:=l.drop (k + 1)) (s:=t) (by simp; omega) (fun j b s hj hs=>by
   have hjl:j < (l.drop (k + 1)).length:=(List.getElem?_eq_some_iff.1 hj).1
   have hb:=h.cr b (List.mem_of_mem_drop (List.mem_of_getElem? hj))
   have e1:slices_ContainsFunc_api_Spot_api_Spot spots (fun x0=>booking_Rivals_1 x0 a b)=some (spots.any fun s=>suitB a s && suitB b s):=containsP_eq spots _ _ (fun x hx=>by
    simp only [booking_Rivals_1,suitsK a x ha.2.2.2.2 (h.tg x hx),suitsK b x hb.2.2.2.2 (h.tg x hx),Option.bind_some]
    cases suitB a x <;> rfl) (by omega)
   have e2:slices_ContainsFunc_api_Spot_api_Spot spots (fun x0=>ref_RivalsOf_1 x0 a b)=some (spots.any fun s=>suitB a s && suitB b s):=containsP_eq spots _ _ (fun x hx=>by
    simp only [ref_RivalsOf_1,suitsR a x ha.2.2.2.2 (h.sr x hx).2.2,suitsR b x hb.2.2.2.2 (h.sr x hx).2.2,Option.bind_some]
    cases suitB a x <;> rfl) (by omega)
   have hap:appL s [(⟨a.Key,b.Key⟩:Pair)]=some (s ++ [(⟨a.Key,b.Key⟩:Pair)]):=appL_ok _ _ (by simp only [List.length_cons,List.length_nil]; simp at hjl; omega)
   unfold booking_Rivals_L1 ref_RivalsOf_L1
   simp only [e1,e2,Option.bind_some]
   cases sNe a.Class (⟨#[]⟩:ByteArray)
   ·exact⟨s,rfl,rfl,by omega⟩
   ·cases sEq a.Class b.Class
    ·exact⟨s,rfl,rfl,by omega⟩
    ·cases (spots.any fun s=>suitB a s && suitB b s)
     ·exact⟨s,rfl,rfl,by omega⟩
     ·simp only [cond_true,Option.bind_some,hap]
      exact⟨_,rfl,rfl,by simp; omega⟩) (by omega)
  unfold booking_Rivals_L2 ref_RivalsOf_L2
  rw [hw,hsub]
  simp only [Option.bind_some]
  rw [q1,q2]
  refine⟨t',rfl,rfl,?_⟩
  simp only [List.length_drop]at q3
  omega) (by simp)
 refine⟨t,?_,?_,?_⟩
 ·unfold booking_Rivals
  simp only [hb,Option.bind_some,bne_self_eq_false,cond_false]
  rw [r1,Option.bind_some,thenC_go]
 ·unfold ref_RivalsOf
  rw [r2,Option.bind_some,thenC_go]
 ·have:l.length * 100≤100 * 100:=Nat.mul_le_mul hln (Nat.le_refl _)
  omega
theorem office_more (h:Office spots l) (hl:l.length≤99) {c:Campaign} (hc:0≤c.Most∧c.Most≤10000000∧c.Tags.length≤1000):Office spots (l ++ [(⟨c.Key,c.Class,c.Time,c.Tags,1000000,c.Most,c.Cents⟩:Campaign)]):=by
 refine⟨h.tg,h.sr,fun y hy => ?_,h.sn,by rw [List.length_append]; simp; omega⟩
 rcases List.mem_append.1 hy with hy | hy
 ·exact h.cr y hy
 ·rw [List.mem_singleton]at hy
  subst hy
  exact⟨by show (0:Int)≤1000000; omega,by show (1000000:Int)≤_; omega,hc.1,hc.2.1,hc.2.2⟩
end
theorem errs3K (a b c:Int):law_errs [a,b,c]=some (or0 a (or0 b c)):=by
 unfold law_errs or0
 rw [forL_eq (by simp)]
 simp only [forR,law_errs_L1]
 by_cases ha:a=0
 ·subst ha
  by_cases hb:b=0
  ·subst hb
   by_cases hc:c=0
   ·subst hc; rfl
   ·have e:(c != 0)=true:=by simp [hc]
    simp [e,thenC]
  ·have e:(b != 0)=true:=by simp [hb]
   have e':(b == 0)=false:=by simp [hb]
   simp [e,e',thenC]
 ·have e:(a != 0)=true:=by simp [ha]
  have e':(a == 0)=false:=by simp [ha]
  simp [e,e',thenC]
theorem roomLeft (l:List Int):law_RoomLeft l=some true:=by
 obtain ⟨x,c,e,s',h1,h2,h3,h4,h5,h6,hok⟩:=office_ok ⟨l,0⟩ ⟨Int.le_refl _,Int.le_refl _⟩
 have hb:=both_eq x c h2 h4 (by omega) (by omega)
 rw [← h6]at hb
 obtain ⟨ky,s1,k1,k2,k3⟩:=some_ok s' [(⟨#[99,101]⟩:ByteArray),(⟨#[99,101]⟩:ByteArray),(⟨#[99,101]⟩:ByteArray),(⟨#[99,97]⟩:ByteArray),(⟨#[]⟩:ByteArray)] hok (by decide) (by simp) (by simp)
 obtain ⟨fr,s2,k4,k5,k6⟩:=pick_ok s1 [0,10] k3 (by decide) (by simp) (by simp)
 obtain ⟨to_,s3,k7,k8,k9⟩:=pick_ok s2 [30,100,5] k6 (by decide) (by simp) (by simp)
 obtain ⟨mo,s4,k10,k11,k12⟩:=pick_ok s3 [1,2,9] k9 (by decide) (by simp) (by simp)
 obtain ⟨go_,s5,k13,k14,k15⟩:=pick_ok s4 [0,5] k12 (by decide) (by simp) (by simp)
 have hky:Short ky:=by
  simp only [List.mem_cons,List.not_mem_nil,or_false]at k2
  rcases k2 with rfl | rfl | rfl | rfl | rfl <;> exact short_lit rfl
 have hmo:0≤mo∧mo≤10000000:=by
  simp only [List.mem_cons,List.not_mem_nil,or_false]at k11
  omega
 generalize hm:(⟨ky,(⟨#[]⟩:ByteArray),(⟨fr,to_⟩:Window),([]:List ByteArray),go_,mo,0⟩:Campaign)=m
 have hgm:GoodC m:=by rw [← hm]; exact⟨hky,short_lit rfl,by simp,by simp⟩
 have hmm:0≤m.Most∧m.Most≤10000000∧m.Tags.length≤1000:=by rw [← hm]; exact⟨hmo.1,hmo.2,by simp⟩
 have hg1:∀ y ∈ [m],GoodC y:=fun y hy=>by rw [List.mem_singleton]at hy; rw [hy]; exact hgm
 have hck:booking_CheckCampaigns [m]=some (campsF [m]):=campsK [m] hg1 (by simp)
 have hcr:ref_CampaignsFault [m]=some (campsF [m]):=campsR [m] hg1 (by simp)
 have hcf:slices_ContainsFunc_api_Campaign_api_Campaign c (fun x0=>law_RoomLeft_1 x0 m)=some (c.any fun y=>sEq y.Key m.Key):=containsC_eq c _ _ (fun y _=>rfl) (by omega)
 have hcf2:slices_ContainsFunc_api_Campaign_api_Campaign c (fun x0=>booking_Left_1 x0 m)=some (c.any fun y=>sEq y.Key m.Key):=containsC_eq c _ _ (fun y _=>rfl) (by omega)
 unfold law_RoomLeft
 simp only [h1,k1,k4,k7,k10,k13,hm,hcr,hcf,law_when,Option.bind_some,errs3K]
 generalize hany:(c.any fun y=>sEq y.Key m.Key)=two at *
 by_cases he:e=0
 ·subst he
  obtain ⟨e1,e2⟩:=or0_split h6.symm
  have hof:=office_right h2 h4 (by omega) (by omega) e1 e2
  obtain ⟨tt,t1,t2,t3⟩:=tight_ok hof hb
  obtain ⟨rr,r1,r2,r3⟩:=rivals_ok hof hb
  obtain ⟨v,m1,m2,m3,_⟩:=most_ok hof
  obtain ⟨v',m1',m2',m3',_⟩:=most_ok (office_more hof (by omega) hmm)
  obtain ⟨g1,g2,_,_⟩:=goals_eq hof.cr (by omega) x
  have hcanof:ref_CanOf x c=some (v == (netOf x c).goals):=by
   unfold ref_CanOf
   simp only [m2,g1,Option.bind_some]
  have hle:v≤(netOf x c).goals:=(least_goals (net_right hof) (by assumption)).1
  have hap:appL c [(⟨m.Key,m.Class,m.Time,m.Tags,1000000,m.Most,m.Cents⟩:Campaign)]=some (c ++ [(⟨m.Key,m.Class,m.Time,m.Tags,1000000,m.Most,m.Cents⟩:Campaign)]):=appL_ok _ _ (by simp; omega)
  have tail:∀ (a b:Int),((bif (b != a)then some true else bif (a != a)then some true else some false)=(bif (b != a)then some true else some false)):=fun a b=>by simp
  have hfin:∀ (n f:Int),booking_Left x c m=some (n,f)→((bif or0 0 (or0 (campsF [m]) (bif two then 6 else 0)) == 0 then (ref_LeftOf x c m).bind fun r_40=>(bif (!r_40.2)then some 12 else some 0).bind fun r_42=>some (r_42,r_40.1)else some (or0 0 (or0 (campsF [m]) (bif two then 6 else 0)),0))=some (f,n))→True:=fun _ _ _ _=>trivial
  have key:∃ n f,booking_Left x c m=some (n,f)∧(bif or0 0 (or0 (campsF [m]) (bif two then 6 else 0)) == 0 then (ref_LeftOf x c m).bind fun r_40=>(bif (!r_40.2)then some 12 else some 0).bind fun r_42=>some (r_42,r_40.1)else some (or0 0 (or0 (campsF [m]) (bif two then 6 else 0)),(0:Int)))=some (f,n):=by
   have h00:∀ a:Int,or0 0 a=a:=fun a=>rfl
   rw [h00]
   by_cases hf:campsF [m]=0
   ·rw [hf,h00]
    cases two with
    | true =>
     refine⟨0,6,?_,rfl⟩
     unfold booking_Left
     simp only [hb,Option.bind_some,bne_self_eq_false,cond_false,hck,hf,hcf2,hany,cond_true]
    | false =>
     have hbt:((bif false then (6:Int)else 0) == 0)=true:=rfl
     rw [hbt]
     by_cases hv:v < (netOf x c).goals
     ·refine⟨0,12,?_,?_⟩
      ·unfold booking_Left
       simp only [hb,Option.bind_some,bne_self_eq_false,cond_false,hck,hf,hcf2,hany,g2,m1,decide_eq_true hv,cond_true]
      ·have hvb:(v == (netOf x c).goals)=false:=by simp; omega
       unfold ref_LeftOf
       simp only [hcanof,hvb,Option.bind_some,Bool.not_false,cond_true]
     ·have hveq:v=(netOf x c).goals:=by omega
      refine⟨w64 (v' - (netOf x c).goals),0,?_,?_⟩
      ·unfold booking_Left
       simp only [hb,Option.bind_some,bne_self_eq_false,cond_false,hck,hf,hcf2,hany,g2,m1,decide_eq_false hv,cloneCa_eq c (by omega),hap,m1']
      ·have hvb:(v == (netOf x c).goals)=true:=by simp [hveq]
       unfold ref_LeftOf
       simp only [hcanof,hvb,Option.bind_some,Bool.not_true,cond_false,cond_true,cloneCa_eq c (by omega),hap,m2',g1,Bool.not_true]
   ·have hfb:(campsF [m] == 0)=false:=by simp [hf]
    have hfn:(campsF [m] != 0)=true:=by simp [hf]
    have ho:or0 (campsF [m]) (bif two then 6 else 0)=campsF [m]:=by unfold or0; rw [hfb]; rfl
    refine⟨0,campsF [m],?_,?_⟩
    ·unfold booking_Left
     simp only [hb,Option.bind_some,bne_self_eq_false,cond_false,hck,hfn,cond_true]
    ·rw [ho,hfb]; rfl
  obtain ⟨n,f,q1,q2⟩:=key
  have hw6:(bif two then some (6:Int)else some 0)=some (bif two then 6 else 0):=by cases two <;> rfl
  simp only [q1,t1,r1,hw6,Option.bind_some,errs3K]
  rw [q2]
  simp only [Option.bind_some,bne_self_eq_false,cond_false,t2,r2,equalB_self tt (by omega),equalR_self rr (by omega),cond_true,booked_ok]
 ·have hne:(e != 0)=true:=by simp [he]
  have heb:(e == 0)=false:=by simp [he]
  have hleft:booking_Left x c m=some (0,e):=by
   unfold booking_Left
   simp only [hb,Option.bind_some,hne,cond_true]
  have htight:booking_Tight x c=some ([],e):=by
   unfold booking_Tight
   simp only [hb,Option.bind_some,hne,cond_true]
  have hriv:booking_Rivals x c=some ([],e):=by
   unfold booking_Rivals
   simp only [hb,Option.bind_some,hne,cond_true]
  have ho:∀ a:Int,or0 e a=e:=fun a=>by unfold or0; rw [heb]; rfl
  have hw6:(bif two then some (6:Int)else some 0)=some (bif two then 6 else 0):=by cases two <;> rfl
  simp only [hleft,htight,hriv,hw6,Option.bind_some,errs3K,ho,heb,cond_false,bne_self_eq_false,hne,cond_true,List.length_nil,booked_ok]
  rfl
end Go.Proofs.Ytipjpkpmkijdoab.Law

