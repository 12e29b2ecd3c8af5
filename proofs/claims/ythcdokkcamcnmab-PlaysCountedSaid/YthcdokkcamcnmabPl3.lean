/-
  THE PLAIN LAW (part 3).
-/
import Derived.Test.YthcdokkcamcnmabPl2
open Go Go.Eng
namespace Go.Proofs.Ythcdokkcamcnmab.Law
set_option linter.unusedVariables false
set_option linter.unusedSimpArgs false
theorem equalRun {α:Type} {body:Nat→α→Unit→Option (Ctl Unit Bool)} {l:List α} (hl:l.length≤1000000) (h:∀ (k:Nat) (x:α),l[k]? = some x→body k x ()=some (.go ())):forL l () (fun k x s=>body k x s)=some (.go ()):=by
 obtain ⟨u,e,_⟩:=forL_at (body:=fun k x s=>body k x s) (fun _ _=>True) (xs:=l) (s:=()) (by omega) (fun k x s hx _=>⟨(),h k x hx,trivial⟩) trivial
 rw [e]
theorem eqTal (l:List Tally) (hl:l.length≤1000000):slices_Equal_api_Tally_api_Tally l l=some true:=by
 unfold slices_Equal_api_Tally_api_Tally
 rw [show ((l.length:Int) != (l.length:Int))=false by simp,cond_false,equalRun (body:=fun k x s=>slices_Equal_api_Tally_api_Tally_L1 l k x s) hl (fun k x hx=>by
  unfold slices_Equal_api_Tally_api_Tally_L1
  rw [idx_nat,hx,Option.bind_some]; simp)]; rfl
theorem eqWin (l:List Window) (hl:l.length≤1000000):slices_Equal_api_Window_api_Window l l=some true:=by
 unfold slices_Equal_api_Window_api_Window
 rw [show ((l.length:Int) != (l.length:Int))=false by simp,cond_false,equalRun (body:=fun k x s=>slices_Equal_api_Window_api_Window_L1 l k x s) hl (fun k x hx=>by
  unfold slices_Equal_api_Window_api_Window_L1
  rw [idx_nat,hx,Option.bind_some]; simp)]; rfl
theorem eqMat (l:List Match) (hl:l.length≤1000000):slices_Equal_api_Match_api_Match l l=some true:=by
 unfold slices_Equal_api_Match_api_Match
 rw [show ((l.length:Int) != (l.length:Int))=false by simp,cond_false,equalRun (body:=fun k x s=>slices_Equal_api_Match_api_Match_L1 l k x s) hl (fun k x hx=>by
  unfold slices_Equal_api_Match_api_Match_L1
  rw [idx_nat,hx,Option.bind_some]; simp)]; rfl
theorem eqInts (l:List Int) (hl:l.length≤1000000):slices_Equal_int_int l l=some true:=by
 unfold slices_Equal_int_int
 rw [show ((l.length:Int) != (l.length:Int))=false by simp,cond_false,equalRun (body:=fun k x s=>slices_Equal_int_int_L1 l k x s) hl (fun k x hx=>by
  unfold slices_Equal_int_int_L1
  rw [idx_nat,hx,Option.bind_some]; simp)]; rfl
def winE (w:Window):Int:=bif outB w.From 0 w.To || decide (w.To > 345686400000)then 1 else 0
theorem window_eq (w:Window):ref_WindowFault w=some (winE w):=by
 unfold ref_WindowFault winE
 rw [in_eq,Option.bind_some]
 cases outB w.From 0 w.To <;> cases decide (w.To > 345686400000) <;> rfl
theorem winE_0 {w:Window} (h:winE w=0):0≤w.From∧w.From≤w.To∧w.To≤345686400000:=by
 unfold winE at h
 cases h1:outB w.From 0 w.To with
 | true=>rw [h1]at h; cases h
 | false =>
  cases h2:decide (w.To > 345686400000)with
  | true=>rw [h1,h2]at h; cases h
  | false =>
   have:=outB_f h1
   have h3:=of_decide_eq_false h2
   omega
theorem counts_all {l:List Play} (hg:∀ x∈l,GoodP x) (hl:l.length≤12) {zone:Int} (hz : -1440≤zone∧zone≤100000) :
  ∃ r,proof_Counts l zone=some (r,or0 (playsV l) (bif decide (zone > 1440)then 1 else 0))∧(bif (or0 (playsV l) (bif decide (zone > 1440)then 1 else 0) == 0)then (ref_CountsOf l zone).bind fun r_78=>some r_78 else some ([]:List Tally))=some r∧r.length≤12:=by
 by_cases hv:playsV l=0
 ·have e0:or0 (playsV l) (bif decide (zone > 1440)then 1 else 0)=(bif decide (zone > 1440)then 1 else 0):=by unfold or0; rw [hv]; rfl
  rw [e0]
  by_cases h1:zone > 1440
  ·refine⟨[],?_,by rw [decide_eq_true h1]; rfl,by simp⟩
   unfold proof_Counts
   rw [checkPlays_eq hg (by omega),hv,Option.bind_some]
   have:outB zone (-1440) 1440=true:=by unfold outB; rw [decide_eq_true h1,Bool.or_true]
   simp only [bne_self_eq_false,cond_false,outside_eq,this,Option.bind_some,cond_true,decide_eq_true h1]
  ·obtain ⟨r,a1,a2,a3⟩:=counts_eq (vp_of hg hv) hl (zone:=zone) (by omega) hv
   refine⟨r,by rw [a1,decide_eq_false h1]; rfl,by rw [decide_eq_false h1,a2]; rfl,?_⟩
   rw [a3.length_eq]
   have:=(foldT_tt (zone:=zone) (by omega) l (vp_of hg hv).at_ (vp_of hg hv).lo).len
   omega
 ·have hb:(playsV l == 0)=false:=beq_eq_false_iff_ne.2 hv
  have e0:or0 (playsV l) (bif decide (zone > 1440)then 1 else 0)=playsV l:=by unfold or0; rw [hb]; rfl
  rw [e0,hb]
  refine⟨[],?_,rfl,by simp⟩
  unfold proof_Counts
  rw [checkPlays_eq hg (by omega),Option.bind_some]
  have hn:(playsV l != 0)=true:=by rw [bne,hb]; rfl
  rw [hn,cond_true]
theorem idle_all {l:List Play} (hg:∀ x∈l,GoodP x) (hl:l.length≤12) {pl:ByteArray} (hs:Short pl) (w:Window) :
  ∃ r,proof_Idle l pl w=some (r,or0 (playsV l) (or0 (bif !keyB pl then 5 else 0) (winE w)))∧(bif (or0 (playsV l) (or0 (bif !keyB pl then 5 else 0) (winE w)) == 0)then (ref_IdleOf l pl w).bind fun r_85=>some r_85 else some ([]:List Window))=some r∧r.length≤200:=by
 have hs':=hs
 unfold Short at hs'
 by_cases hv:playsV l=0
 ·have e0:or0 (playsV l) (or0 (bif !keyB pl then 5 else 0) (winE w))=or0 (bif !keyB pl then 5 else 0) (winE w):=by unfold or0; rw [hv]; rfl
  rw [e0]
  cases hk:keyB pl with
  | false =>
   refine⟨[],?_,rfl,by simp⟩
   unfold proof_Idle
   rw [checkPlays_eq hg (by omega),hv,Option.bind_some]
   simp only [bne_self_eq_false,cond_false,isKey_eq _ (show pl.size≤1000000000 by omega),hk,Option.bind_some,Bool.not_false,cond_true]; rfl
  | true =>
   have e1:or0 (bif !true then 5 else 0) (winE w)=winE w:=rfl
   rw [e1]
   by_cases hw:winE w=0
   ·obtain ⟨r,a1,a2,a3⟩:=idle_eq (vp_of hg hv) hv (by omega) hk hs (winE_0 hw)
    exact⟨r,by rw [a1,hw],by rw [hw,a2]; rfl,a3⟩
   ·have hw1:(outB w.From 0 w.To || decide (w.To > 345686400000))=true∧winE w=1:=by
     unfold winE at hw ⊢
     cases h:(outB w.From 0 w.To || decide (w.To > 345686400000))with
     | true=>exact⟨rfl,rfl⟩
     | false=>rw [h]at hw; exact absurd rfl hw
    rw [hw1.2]
    refine⟨[],?_,rfl,by simp⟩
    unfold proof_Idle
    rw [checkPlays_eq hg (by omega),hv,Option.bind_some]
    simp only [bne_self_eq_false,cond_false,isKey_eq _ (show pl.size≤1000000000 by omega),hk,Option.bind_some,Bool.not_true,outside_eq]
    have h1:=hw1.1
    cases h2:outB w.From 0 w.To with
    | true=>rfl
    | false =>
     rw [h2,Bool.false_or]at h1
     rw [h1]; rfl
 ·have hb:(playsV l == 0)=false:=beq_eq_false_iff_ne.2 hv
  have e0:or0 (playsV l) (or0 (bif !keyB pl then 5 else 0) (winE w))=playsV l:=by unfold or0; rw [hb]; rfl
  rw [e0,hb]
  refine⟨[],?_,rfl,by simp⟩
  unfold proof_Idle
  rw [checkPlays_eq hg (by omega),Option.bind_some]
  have hn:(playsV l != 0)=true:=by rw [bne,hb]; rfl
  rw [hn,cond_true]
theorem compare_all {a b:List Play} (ha:∀ x∈a,GoodP x) (hb:∀ x∈b,GoodP x) (hal:a.length≤12) (hbl:b.length≤12) (most:Int) :
  ∃ out left,proof_Compare a b most=some (out,left,or0 (playsV a) (or0 (playsV b) (bif outB most 0 86400000 then 1 else 0)))∧(bif (or0 (playsV a) (or0 (playsV b) (bif outB most 0 86400000 then 1 else 0)) == 0)then (ref_CompareOf a b most).bind fun r_94=>some (r_94.1,r_94.2)else some (([]:List Match),([]:List Int)))=some (out,left)∧out.length≤100∧left.length≤100:=by
 by_cases h:or0 (playsV a) (or0 (playsV b) (bif outB most 0 86400000 then 1 else 0))=0
 ·obtain ⟨h1,h2⟩:=or0_0 h
  obtain ⟨h3,h4⟩:=or0_0 h2
  have hm:outB most 0 86400000=false:=by
   cases h5:outB most 0 86400000 with
   | true=>rw [h5]at h4; cases h4
   | false=>rfl
  obtain ⟨out,left,c1,c2,c3,c4⟩:=compare_eqs (vp_of ha h1) (vp_of hb h3) h1 h3 (by omega) (by omega) (outB_f hm)
  exact⟨out,left,by rw [h]; exact c1,by rw [h,c2]; rfl,c3,c4⟩
 ·have hbq:(or0 (playsV a) (or0 (playsV b) (bif outB most 0 86400000 then 1 else 0)) == 0)=false:=beq_eq_false_iff_ne.2 h
  exact⟨[],[],compare_bad ha hb (by omega) (by omega) h,by rw [hbq]; rfl,by simp,by simp⟩
theorem playsCounted (l:List Int):law_PlaysCounted l=some true:=by
 obtain ⟨a,s1,a1,a2,a3,a4⟩:=plays_ok 6 (by decide) ⟨l,0⟩ (b:=0) ⟨Int.le_refl _,Int.le_refl _⟩ (by decide)
 obtain ⟨b,s2,b1,b2,b3,b4⟩:=plays_ok 5 (by decide) s1 a4 (by decide)
 obtain ⟨zone,s3,c1,c2,c3⟩:=pick_ok s2 [0,0,60,(-60),1440,1441] b4 (by omega) (by simp) (by simp)
 obtain ⟨who,s4,d1,d2,d3⟩:=some_ok s3 [(⟨#[112,97]⟩:ByteArray),(⟨#[112,98]⟩:ByteArray),(⟨#[112,122]⟩:ByteArray),(⟨#[]⟩:ByteArray)] c3 (by omega) (by simp) (by simp)
 obtain ⟨most,s5,e1,_,e3⟩:=pick_ok s4 [0,5,20,1000,(-1),86400001] d3 (by omega) (by simp) (by simp)
 obtain ⟨f,s6,f1,_,f3⟩:=pick_ok s5 [0,3,10] e3 (by omega) (by simp) (by simp)
 obtain ⟨t,s7,g1,_,g3⟩:=pick_ok s6 [5,50,200] f3 (by omega) (by simp) (by simp)
 obtain ⟨c,s8,h1,h2⟩:=flip_ok s7 12 g3 (by omega) (by decide) (by decide)
 have hw:∃ (L:List Int) (at_ x y:Int),(bif c then (mk_Stream_Odd s8 0 50).bind fun r_31=>(mk_Stream_Odd r_31.2 0 100).bind fun r_34=>some (r_34.2.L,r_34.2.f_at,r_31.1,r_34.1)else some (s8.L,s8.f_at,f,t))=some (L,at_,x,y):=by
  cases c with
  | false=>exact⟨_,_,_,_,rfl⟩
  | true =>
   obtain ⟨u,s9,i1,_,i3⟩:=odd_in s8 0 50 h2 (by omega) (by decide) (by decide) (by decide)
   obtain ⟨v,s10,j1,_,_⟩:=odd_in s9 0 100 i3 (by omega) (by decide) (by decide) (by decide)
   simp only [cond_true,i1,j1,Option.bind_some]
   exact⟨_,_,_,_,rfl⟩
 obtain ⟨L,at_,x,y,hw⟩:=hw
 have hwho:Short who:=by
  simp only [List.mem_cons,List.not_mem_nil,or_false]at d2
  rcases d2 with rfl | rfl | rfl | rfl <;> exact short_lit (by decide)
 have hz : -1440≤zone∧zone≤100000:=by
  simp only [List.mem_cons,List.not_mem_nil,or_false]at c2; omega
 have hwz:who.size≤1000000000:=by unfold Short at hwho; omega
 obtain ⟨r,k1,k2,k3⟩:=counts_all a2 a3 hz
 obtain ⟨i,m1,m2,m3⟩:=idle_all a2 a3 hwho ⟨x,y⟩
 obtain ⟨out,left,n1,n2,n3,n4⟩:=compare_all a2 b2 a3 b3 most
 have hthree:((ref_PlaysFault b).bind fun r_62=>bif (decide (most < 0))then some (or0 (playsV a) (or0 r_62 (bif true then 1 else 0)))else some (or0 (playsV a) (or0 r_62 (bif decide (most > 86400000)then 1 else 0))))=some (or0 (playsV a) (or0 (playsV b) (bif outB most 0 86400000 then 1 else 0))):=by
  rw [playsFault_eq b2 (by omega),Option.bind_some]
  unfold outB
  cases decide (most < 0) <;> cases decide (most > 86400000) <;> rfl
 unfold law_PlaysCounted
 rw [a1,Option.bind_some,b1,Option.bind_some,c1,Option.bind_some,d1,Option.bind_some,e1,Option.bind_some,f1,Option.bind_some,g1,Option.bind_some,h1,Option.bind_some,hw,Option.bind_some]
 simp only []
 rw [k1,Option.bind_some,m1,Option.bind_some,n1,Option.bind_some,playsFault_eq a2 (by omega),Option.bind_some,checkPlays_eq a2 (by omega),Option.bind_some]
 simp only [bne_self_eq_false,cond_false,when_eq,errs2,refKey_eq _ hwz,window_eq,errs3,Option.bind_some]
 rw [hthree]
 simp only [Option.bind_some]
 rw [k2,Option.bind_some,m2,Option.bind_some,n2,Option.bind_some]
 simp only [beq_self_eq_true,cond_true,eqTal r (by omega),eqWin i (by omega),eqMat out (by omega),eqInts left (by omega),proved_ok,Option.bind_some]
end Go.Proofs.Ythcdokkcamcnmab.Law

