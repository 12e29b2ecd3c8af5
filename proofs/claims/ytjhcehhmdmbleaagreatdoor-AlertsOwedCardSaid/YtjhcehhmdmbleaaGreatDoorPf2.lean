/-
 The machine computes these plain functions (written by a program of ours).
-/
import Derived.Test.YtjhcehhmdmbleaaGreatDoorFacts
import Derived.Test.YtjhcehhmdmbleaaGreatDoorDefs
import Derived.Test.YtjhcehhmdmbleaaGreatDoorPf1
open Go Go.Eng Go.Proofs
namespace Go.Proofs.YtjhcehhmdmbleaaGreatDoor.Law
set_option maxRecDepth 100000
set_option linter.unusedVariables false
set_option maxHeartbeats 1000000
theorem yS {s_1:Stream} {r:Rect×Stream} (hF:l5 s_1=some r) :
  FnM Tryz.prog 160 [(.ref (av 0) 0 0)] [(.cells 2 [(vL eI s_1.L),(vI s_1.f_at)])] (.d (.agg (Rect.enc r.1))) [some (.cells 2 [(vL eI r.2.L),(vI r.2.f_at)])]:=by
 refine FnM.of_wH ⟨Tryz.prog,32,[],[]⟩ rfl Tryz.func160 rfl rfl (lb_ rfl) (by kernel_rfl) ?_
 unfold l5 at hF
 refine af (aa (cK 0 (.inl rfl) z45 rfl wz (λn_2=>ai (af (aa (ae (.ref (av 0) 0 0) wz rfl ?_))))))
 obtain ⟨r_3,hr_4,hF⟩:=bind_some hF
 refine aS 0 [0] il ft (kP hr_4) rfl hb97 rfl (by kernel_rfl) (by kernel_rfl) (by kernel_rfl) (by kernel_rfl) (by kernel_rfl) (by kernel_rfl) (by kernel_rfl) (by decide) (by kernel_rfl) wz (.d (.agg (Rect.enc r_3.1))) (by kernel_rfl) ([((av 0),some (.cells 2 [(vL eI r_3.2.L),(vI r_3.2.f_at)])),(n_2,some (.cells 4 [(vI 0),(vI 0),(vI 0),(vI 0)]))]:Hp) (by kernel_rfl) (cK 0 (.inl rfl) z45 rfl wz (λn_6=>dJ 0 il ft 2 u7 rfl rfl [(vI r_3.1.X),(vI r_3.1.Y),(vI r_3.1.W),(vI r_3.1.H)] rfl wz (ai (af (af (aa (ae (.ref (av 0) 0 0) wz rfl ?_)))))))
 obtain ⟨r_7,hr_8,hF⟩:=bind_some hF
 refine aS 0 [0] il ft (fC hr_8) rfl Ff rfl (by kernel_rfl) (by kernel_rfl) (by kernel_rfl) (by kernel_rfl) (by kernel_rfl) (by kernel_rfl) (by kernel_rfl) (by decide) (by kernel_rfl) wz (vB r_7.1) (by kernel_rfl) ([((av 0),some (.cells 2 [(vL eI r_7.2.L),(vI r_7.2.f_at)])),(n_2,some (.cells 4 [(vI 0),(vI 0),(vI 0),(vI 0)])),(n_6,some (.cells 4 [(vI r_3.1.X),(vI r_3.1.Y),(vI r_3.1.W),(vI r_3.1.H)]))]:Hp) (by kernel_rfl) (ai ?_)
 obtain ⟨v_10,h_11,hF⟩:=bind_some hF
 refine aG (β:=Unit) (λ_=>([(2,(.ref n_2 0 0)),(3,(.ref n_6 0 0))]:SL_)) (λ_=>([((av 0),some (.cells 2 [(vL eI v_10.1),(vI v_10.2.1)])),(n_2,some (.cells 4 [(vI 0),(vI 0),(vI 0),(vI 0)])),(n_6,some (.cells 4 [(vI v_10.2.2.1),(vI v_10.2.2.2.1),(vI v_10.2.2.2.2.1),(vI v_10.2.2.2.2.2)]))]:Hp)) (λ_=>True) ?_ ?_
 ·rcases ak h_11 with⟨hc_12,h_11⟩|⟨hc_12,h_11⟩
  ·refine aA rfl hc_12 (af (aa (ae (.ref (av 0) 0 0) wz rfl ?_)))
   obtain ⟨r_13,hr_14,h_11⟩:=bind_some h_11
   refine aS 0 [0] il ft (eF hr_14) rfl Dl rfl (by kernel_rfl) (by kernel_rfl) (by kernel_rfl) (by kernel_rfl) (by kernel_rfl) (by kernel_rfl) (by kernel_rfl) (by decide) (by kernel_rfl) wz (vI r_13.1) (by kernel_rfl) ([((av 0),some (.cells 2 [(vL eI r_13.2.L),(vI r_13.2.f_at)])),(n_2,some (.cells 4 [(vI 0),(vI 0),(vI 0),(vI 0)])),(n_6,some (.cells 4 [(vI r_3.1.X),(vI r_3.1.Y),(vI r_3.1.W),(vI r_3.1.H)]))]:Hp) (by kernel_rfl) (ai (aD (af (aa (ae (vB (r_13.1==0)) wz rfl (ae (vB (r_13.1==0)) wz rfl (ai ?_)))))))
   rcases ak h_11 with⟨hc_16,h_11⟩|⟨hc_16,h_11⟩
   ·refine aA rfl hc_16 (aa (ae (.ref (av 0) 0 0) wz rfl ?_))
    obtain ⟨r_17,hr_18,h_11⟩:=bind_some h_11
    refine aS 0 [0] il ft (fQ hr_18) rfl EG rfl (by kernel_rfl) (by kernel_rfl) (by kernel_rfl) (by kernel_rfl) (by kernel_rfl) (by kernel_rfl) (by kernel_rfl) (by decide) (by kernel_rfl) wz (vI r_17.1) (by kernel_rfl) ([((av 0),some (.cells 2 [(vL eI r_17.2.L),(vI r_17.2.f_at)])),(n_2,some (.cells 4 [(vI 0),(vI 0),(vI 0),(vI 0)])),(n_6,some (.cells 4 [(vI r_3.1.X),(vI r_3.1.Y),(vI r_3.1.W),(vI r_3.1.H)]))]:Hp) (by kernel_rfl) (aI vG rfl 0 rfl wz (dJ 0 il ft 2 sz3 rfl rfl [(vI r_17.1),(vI r_3.1.Y),(vI r_3.1.W),(vI r_3.1.H)] rfl wz (ai ?_)))
    obtain rfl:=ah h_11
    exact cu
   ·refine ay rfl hc_16 (af (aa (ae (vB (r_13.1==1)) wz rfl (ae (vB (r_13.1==1)) wz rfl (ai ?_)))))
    rcases ak h_11 with⟨hc_20,h_11⟩|⟨hc_20,h_11⟩
    ·refine aA rfl hc_20 (aa (ae (.ref (av 0) 0 0) wz rfl ?_))
     obtain ⟨r_21,hr_22,h_11⟩:=bind_some h_11
     refine aS 0 [0] il ft (fQ hr_22) rfl EG rfl (by kernel_rfl) (by kernel_rfl) (by kernel_rfl) (by kernel_rfl) (by kernel_rfl) (by kernel_rfl) (by kernel_rfl) (by decide) (by kernel_rfl) wz (vI r_21.1) (by kernel_rfl) ([((av 0),some (.cells 2 [(vL eI r_21.2.L),(vI r_21.2.f_at)])),(n_2,some (.cells 4 [(vI 0),(vI 0),(vI 0),(vI 0)])),(n_6,some (.cells 4 [(vI r_3.1.X),(vI r_3.1.Y),(vI r_3.1.W),(vI r_3.1.H)]))]:Hp) (by kernel_rfl) (ae (.ref (av 0) 0 0) wz rfl ?_)
     obtain ⟨r_24,hr_25,h_11⟩:=bind_some h_11
     refine aS 0 [0] il ft (fQ hr_25) rfl EG rfl (by kernel_rfl) (by kernel_rfl) (by kernel_rfl) (by kernel_rfl) (by kernel_rfl) (by kernel_rfl) (by kernel_rfl) (by decide) (by kernel_rfl) wz (vI r_24.1) (by kernel_rfl) ([((av 0),some (.cells 2 [(vL eI r_24.2.L),(vI r_24.2.f_at)])),(n_2,some (.cells 4 [(vI 0),(vI 0),(vI 0),(vI 0)])),(n_6,some (.cells 4 [(vI r_3.1.X),(vI r_3.1.Y),(vI r_3.1.W),(vI r_3.1.H)]))]:Hp) (by kernel_rfl) (aI BG rfl 2 rfl wz (dJ 0 il ft 2 sz3 rfl rfl [(vI r_3.1.X),(vI r_3.1.Y),(vI r_21.1),(vI r_3.1.H)] rfl wz (aI zy rfl 3 rfl wz (dJ 0 il ft 2 sz3 rfl rfl [(vI r_3.1.X),(vI r_3.1.Y),(vI r_21.1),(vI r_24.1)] rfl wz (ai ?_)))))
     obtain rfl:=ah h_11
     exact cu
    ·refine ay rfl hc_20 (aa (ae (.ref (av 0) 0 0) wz rfl (dQ (([(-100000),99999]:List Int).map eI) sQ zW rfl rfl rfl rfl rfl wz ?_)))
     obtain ⟨r_27,hr_28,h_11⟩:=bind_some h_11
     refine aS 0 [0] il ft (gm hr_28) rfl GG rfl (by kernel_rfl) (by kernel_rfl) (by kernel_rfl) (by kernel_rfl) (by kernel_rfl) (by kernel_rfl) (by kernel_rfl) (by decide) (by kernel_rfl) wz (vI r_27.1) (by kernel_rfl) ([((av 0),some (.cells 2 [(vL eI r_27.2.L),(vI r_27.2.f_at)])),(n_2,some (.cells 4 [(vI 0),(vI 0),(vI 0),(vI 0)])),(n_6,some (.cells 4 [(vI r_3.1.X),(vI r_3.1.Y),(vI r_3.1.W),(vI r_3.1.H)]))]:Hp) (by kernel_rfl) (ae (.ref (av 0) 0 0) wz rfl (dQ (([1,2,200000]:List Int).map eI) sQ zW rfl rfl rfl rfl rfl wz ?_))
     obtain ⟨r_30,hr_31,h_11⟩:=bind_some h_11
     refine aS 0 [0] il ft (gm hr_31) rfl GG rfl (by kernel_rfl) (by kernel_rfl) (by kernel_rfl) (by kernel_rfl) (by kernel_rfl) (by kernel_rfl) (by kernel_rfl) (by decide) (by kernel_rfl) wz (vI r_30.1) (by kernel_rfl) ([((av 0),some (.cells 2 [(vL eI r_30.2.L),(vI r_30.2.f_at)])),(n_2,some (.cells 4 [(vI 0),(vI 0),(vI 0),(vI 0)])),(n_6,some (.cells 4 [(vI r_3.1.X),(vI r_3.1.Y),(vI r_3.1.W),(vI r_3.1.H)]))]:Hp) (by kernel_rfl) (aI vk rfl 1 rfl wz (dJ 0 il ft 2 sz3 rfl rfl [(vI r_3.1.X),(vI r_27.1),(vI r_3.1.W),(vI r_3.1.H)] rfl wz (aI zy rfl 3 rfl wz (dJ 0 il ft 2 sz3 rfl rfl [(vI r_3.1.X),(vI r_27.1),(vI r_3.1.W),(vI r_30.1)] rfl wz (ai ?_)))))
     obtain rfl:=ah h_11
     exact cu
  ·refine ay rfl hc_12 (au ?_)
   obtain rfl:=ah h_11
   exact cu
 ·rintro ⟨⟩ _ sl_ H_ hp_ hq_
  refine aN _ hp_ hq_ (af (aa (aF 0 2 il ft u7 Dn rfl rfl (.d (.agg (Rect.enc (⟨v_10.2.2.1,v_10.2.2.2.1,v_10.2.2.2.2.1,v_10.2.2.2.2.2⟩:Rect)))) rfl wz (dJ 0 il ft 1 u7 rfl rfl [(vI v_10.2.2.1),(vI v_10.2.2.2.1),(vI v_10.2.2.2.2.1),(vI v_10.2.2.2.2.2)] rfl wz (ai ?_)))))
  obtain rfl:=ah hF
  exact ax (rW (.inr rfl) [(.d (.agg (Rect.enc (⟨v_10.2.2.1,v_10.2.2.2.1,v_10.2.2.2.2.1,v_10.2.2.2.2.2⟩:Rect))))] _ [0] [av 0] ⟨⟨1,_,_,_,_,_,_,_,rfl,rfl,u7,Dn,rfl⟩,trivial⟩ (.cons (gH rfl rfl) (.nil)) (by kernel_rfl) ⟨(by kernel_rfl),trivial⟩ (by decide) (by kernel_rfl))
theorem yc {s_1:Stream} {most_2:Int} {r:(List Rect)×Stream} (hF:lq s_1 most_2=some r) :
  FnM Tryz.prog 82 [(.ref (av 0) 0 0),(vI most_2)] [(.cells 2 [(vL eI s_1.L),(vI s_1.f_at)])] (vL Rect.enc r.1) [some (.cells 2 [(vL eI r.2.L),(vI r.2.f_at)])]:=by
 refine FnM.of_wH ⟨Tryz.prog,24,[],[]⟩ rfl Tryz.func82 rfl rfl (lb_ rfl) (by kernel_rfl) ?_
 unfold lq at hF
 refine af (aa (ae .nil wz rfl (ai (af (aa (ae .nil wz rfl (ai (af (af (aa (ae (.ref (av 0) 0 0) wz rfl (ae (vI most_2) wz rfl ?_))))))))))))
 obtain ⟨r_3,hr_4,hF⟩:=bind_some hF
 refine aS 0 [0] il ft (di hr_4) rfl AZ rfl (by kernel_rfl) (by kernel_rfl) (by kernel_rfl) (by kernel_rfl) (by kernel_rfl) (by kernel_rfl) (by kernel_rfl) (by decide) (by kernel_rfl) wz (vI r_3.1) (by kernel_rfl) ([((av 0),some (.cells 2 [(vL eI r_3.2.L),(vI r_3.2.f_at)]))]:Hp) (by kernel_rfl) (ae (vI 0) wz rfl (ai (rF (λn_12 => ?_))))
 obtain ⟨o_17,hj_18,hF⟩:=bind_some hF
 obtain ⟨hn_10,hj_18⟩:=aU hj_18
 refine aG (β:=((List Rect)×(List Int)×Int)×Nm) (λp=>(λ(s_11:(List Rect)×(List Int)×Int) (n_14:Nm)=>([(5,(gV n_14 4 s_11.1))]:SL_)) p.1 p.2) (λp=>(λ(s_11:(List Rect)×(List Int)×Int) (n_14:Nm)=>([((av 0),some (.cells 2 [(vL eI s_11.2.1),(vI s_11.2.2)])),(n_14,gB 4 Rect.enc s_11.1)]:Hp)) p.1 p.2) (λp=>o_17 = .go p.1) ?_ ?_
 ·refine aD (bf (β:=Nat×(List Nat)×((List Rect)×(List Int)×Int)×Nm) (λp=>(λ(k_6:Nat) (l_7:List Nat) (s_11:(List Rect)×(List Int)×Int) (n_14:Nm)=>([(0,(.ref (av 0) 0 0)),(5,(gV n_14 4 s_11.1)),(9,(vI r_3.1)),(10,(vI (k_6:Int)))]:SL_)) p.1 p.2.1 p.2.2.1 p.2.2.2) (λp=>(λ(k_6:Nat) (l_7:List Nat) (s_11:(List Rect)×(List Int)×Int) (n_14:Nm)=>([((av 0),some (.cells 2 [(vL eI s_11.2.1),(vI s_11.2.2)])),(n_14,gB 4 Rect.enc s_11.1)]:Hp)) p.1 p.2.1 p.2.2.1 p.2.2.2) (λp=>forR (λk x s=>jw k x s) p.2.1 p.1 p.2.2.1=some o_17/\((List.range (r_3.1).toNat)).drop p.1=p.2.1) (λp=>p.2.1.length) (0,(List.range (r_3.1).toNat),(([]:List Rect),r_3.2.L,r_3.2.f_at),n_12) ⟨hj_18,rfl⟩ rfl (aJ rfl) ?_)
  rintro ⟨k_6,l_7,s_11,n_14⟩ ⟨hL_16,hD_9⟩
  dsimp only at hL_16 hD_9
  cases l_7 with
  | nil =>
   obtain rfl:=ah hL_16
   refine af (aa (ae (vB (decide ((k_6:Int)<r_3.1))) wz rfl (ai ?_)))
   refine af (ay rfl (wZ hD_9) (aW ?_))
   exact aZ (s_11,n_14) rfl rfl (aJ rfl)
  | cons x_8 l_7 =>
   obtain ⟨c_,hc_15,hL_16⟩:=bind_some hL_16
   refine af (aa (ae (vB (decide ((k_6:Int)<r_3.1))) wz rfl (ai ?_)))
   refine af (aA rfl (ve hD_9) (au ?_))
   unfold jw at hc_15
   refine af (aD (af (aa (ae (.ref (av 0) 0 0) wz rfl ?_))))
   obtain ⟨r_19,hr_20,hc_15⟩:=bind_some hc_15
   refine aS 0 [0] il ft (kP hr_20) rfl hb97 rfl (by kernel_rfl) (by kernel_rfl) (by kernel_rfl) (by kernel_rfl) (by kernel_rfl) (by kernel_rfl) (by kernel_rfl) (by decide) (by kernel_rfl) wz (.d (.agg (Rect.enc r_19.1))) (by kernel_rfl) ([((av 0),some (.cells 2 [(vL eI r_19.2.L),(vI r_19.2.f_at)])),(n_14,gB 4 Rect.enc s_11.1)]:Hp) (by kernel_rfl) (cK 0 (.inl rfl) z45 rfl wz (λn_22=>dJ 0 il ft 2 u7 rfl rfl [(vI r_19.1.X),(vI r_19.1.Y),(vI r_19.1.W),(vI r_19.1.H)] rfl wz (ai (af (af (aa (ae (.ref (av 0) 0 0) wz rfl ?_)))))))
   obtain ⟨r_23,hr_24,hc_15⟩:=bind_some hc_15
   refine aS 0 [0] il ft (fC hr_24) rfl Ff rfl (by kernel_rfl) (by kernel_rfl) (by kernel_rfl) (by kernel_rfl) (by kernel_rfl) (by kernel_rfl) (by kernel_rfl) (by decide) (by kernel_rfl) wz (vB r_23.1) (by kernel_rfl) ([((av 0),some (.cells 2 [(vL eI r_23.2.L),(vI r_23.2.f_at)])),(n_14,gB 4 Rect.enc s_11.1),(n_22,some (.cells 4 [(vI r_19.1.X),(vI r_19.1.Y),(vI r_19.1.W),(vI r_19.1.H)]))]:Hp) (by kernel_rfl) (ai ?_)
   obtain ⟨v_26,h_27,hc_15⟩:=bind_some hc_15
   refine aG (β:=Unit) (λ_=>([(0,(.ref (av 0) 0 0)),(5,(gV n_14 4 s_11.1)),(6,(.ref n_22 0 0)),(9,(vI r_3.1)),(10,(vI (k_6:Int)))]:SL_)) (λ_=>([((av 0),some (.cells 2 [(vL eI v_26.1),(vI v_26.2.1)])),(n_14,gB 4 Rect.enc s_11.1),(n_22,some (.cells 4 [(vI v_26.2.2.1),(vI v_26.2.2.2.1),(vI v_26.2.2.2.2.1),(vI v_26.2.2.2.2.2)]))]:Hp)) (λ_=>True) ?_ ?_
   ·rcases ak h_27 with⟨hc_28,h_27⟩|⟨hc_28,h_27⟩
    ·refine aA rfl hc_28 (aa (ae (.ref (av 0) 0 0) wz rfl ?_))
     obtain ⟨r_29,hr_30,h_27⟩:=bind_some h_27
     refine aS 0 [0] il ft (yS hr_30) rfl hb160 rfl (by kernel_rfl) (by kernel_rfl) (by kernel_rfl) (by kernel_rfl) (by kernel_rfl) (by kernel_rfl) (by kernel_rfl) (by decide) (by kernel_rfl) wz (.d (.agg (Rect.enc r_29.1))) (by kernel_rfl) ([((av 0),some (.cells 2 [(vL eI r_29.2.L),(vI r_29.2.f_at)])),(n_14,gB 4 Rect.enc s_11.1),(n_22,some (.cells 4 [(vI r_19.1.X),(vI r_19.1.Y),(vI r_19.1.W),(vI r_19.1.H)]))]:Hp) (by kernel_rfl) (dJ 0 il ft 2 u7 rfl rfl [(vI r_29.1.X),(vI r_29.1.Y),(vI r_29.1.W),(vI r_29.1.H)] rfl wz (ai ?_))
     obtain rfl:=ah h_27
     exact cu
    ·refine ay rfl hc_28 (au ?_)
     obtain rfl:=ah h_27
     exact cu
   ·rintro ⟨⟩ _ sl_ H_ hp_ hq_
    refine aN _ hp_ hq_ (aa (ae (gV n_14 4 s_11.1) wz rfl (aF 0 2 il ft u7 Dn rfl rfl (.d (.agg (Rect.enc (⟨v_26.2.2.1,v_26.2.2.2.1,v_26.2.2.2.2.1,v_26.2.2.2.2.2⟩:Rect)))) rfl wz (dQ (([(⟨v_26.2.2.1,v_26.2.2.2.1,v_26.2.2.2.2.1,v_26.2.2.2.2.2⟩:Rect)]:List Rect).map Rect.enc) Kw ez98 rfl rfl rfl rfl rfl wz ?_))))
    obtain ⟨a_32,hz_33,hc_15⟩:=bind_some hc_15
    refine o7 0 il ft (i:=1) el98 el98 u7 z45 rfl (by decide) by45 (by decide) (λ_=>rfl) rfl rfl rfl hz_33 wz (λn_34=>ae (gV n_34 4 a_32) wz rfl (ai (aa (dX (xA hD_9 hn_10) wz rfl (ae (vI ((k_6+1:Nat):Int)) wz rfl (ai ?_))))))
    obtain rfl:=ah hc_15
    exact aV (k_6+1,l_7,(a_32,v_26.1,v_26.2.1),n_34) ⟨hL_16,aQ hD_9⟩ (ls_ _) rfl (aJ rfl)
 ·rintro ⟨s_11,n_14⟩ ho_ sl_ H_ hp_ hq_
  subst ho_
  refine aN _ hp_ hq_ (af (aa (ae (gV n_14 4 s_11.1) wz rfl (ae (gV n_14 4 s_11.1) wz rfl (ai (jv 1 rfl (gP 4 1 rfl rfl (gP 5 1 rfl rfl (gP 23 1 rfl rfl ?_)))))))))
  obtain rfl:=ah hF
  exact ax (rW (.inr rfl) [(vL Rect.enc s_11.1)] _ [0] [av 0] ⟨rfl,trivial⟩ (.cons (gH rfl rfl) (.nil)) (by kernel_rfl) ⟨(by kernel_rfl),trivial⟩ (by decide) (by kernel_rfl))
theorem xK {s_1:Stream} {most_2:Int} {r:(List Alert)×Stream} (hF:kr s_1 most_2=some r) :
  FnM Tryz.prog 18 [(.ref (av 0) 0 0),(vI most_2)] [(.cells 2 [(vL eI s_1.L),(vI s_1.f_at)])] (vL Alert.enc r.1) [some (.cells 2 [(vL eI r.2.L),(vI r.2.f_at)])]:=by
 refine FnM.of_wH ⟨Tryz.prog,99,[],[]⟩ rfl Tryz.func18 rfl rfl (lb_ rfl) (by kernel_rfl) ?_
 unfold kr at hF
 refine af (aa (ae .nil wz rfl (ai (af (aa (ae (.ref (av 0) 0 0) wz rfl (ae (vI most_2) wz rfl ?_)))))))
 obtain ⟨r_3,hr_4,hF⟩:=bind_some hF
 refine Bi [0] (sO hr_4) rfl hb38 rfl (by kernel_rfl) (by kernel_rfl) (by kernel_rfl) (by kernel_rfl) (by kernel_rfl) rfl (by decide) (by kernel_rfl) wz ([((av 0),some (.cells 2 [(vL eI r_3.2.L),(vI r_3.2.f_at)]))]:Hp) (λ_=>by kernel_rfl) (λn_6=>ae (gV n_6 9 r_3.1) wz rfl (ai (af (af ?_))))
 obtain ⟨v_7,h_8,hF⟩:=bind_some hF
 refine aG (β:=Unit) (λ_=>([(0,(.ref (av 0) 0 0)),(5,(gV n_6 9 r_3.1)),(16,(vB v_7.1))]:SL_)) (λ_=>([((av 0),some (.cells 2 [(vL eI v_7.2.1),(vI v_7.2.2)])),(n_6,gB 9 Alert.enc r_3.1)]:Hp)) (λ_=>True) ?_ ?_
 ·refine aa (ae (gV n_6 9 r_3.1) wz rfl (yl uT rfl wz (ae (vB (decide ((r_3.1.length:Int)>0))) wz rfl ?_)))
  rcases ak h_8 with⟨hc_9,h_8⟩|⟨hc_9,h_8⟩
  ·refine aC rfl hc_9 wz (ae (.ref (av 0) 0 0) wa rfl ?_)
   obtain ⟨r_10,hr_11,h_8⟩:=bind_some h_8
   refine aS 0 [0] il ft (fC hr_11) rfl Ff rfl (by kernel_rfl) (by kernel_rfl) (by kernel_rfl) (by kernel_rfl) (by kernel_rfl) (by kernel_rfl) (by kernel_rfl) (by decide) (by kernel_rfl) wa (vB r_10.1) (by kernel_rfl) ([((av 0),some (.cells 2 [(vL eI r_10.2.L),(vI r_10.2.f_at)])),(n_6,gB 9 Alert.enc r_3.1)]:Hp) (by kernel_rfl) (ae (vB r_10.1) wz rfl (ai ?_))
   obtain rfl:=ah h_8
   exact cu
  ·refine aC rfl hc_9 wz (aj wa (aj wa (ae (vB false) wz rfl (ai ?_))))
   obtain rfl:=ah h_8
   exact cu
 ·rintro ⟨⟩ _ sl_ H_ hp_ hq_
  refine aN _ hp_ hq_ ?_
  obtain ⟨v_13,h_14,hF⟩:=bind_some hF
  refine aG (β:=Unit) (λ_=>([(5,(gV n_6 9 v_13.1))]:SL_)) (λ_=>([((av 0),some (.cells 2 [(vL eI v_13.2.1),(vI v_13.2.2)])),(n_6,gB 9 Alert.enc v_13.1)]:Hp)) (λ_=>True) ?_ ?_
  ·rcases ak h_14 with⟨hc_15,h_14⟩|⟨hc_15,h_14⟩
   ·refine aA rfl hc_15 (af (aa (ae (gV n_6 9 r_3.1) wz rfl (ae (.ref (av 0) 0 0) wz rfl (ae (gV n_6 9 r_3.1) wz rfl (yl uT rfl wz ?_))))))
    obtain ⟨r_16,hr_17,h_14⟩:=bind_some h_14
    refine aS 0 [0] il ft (eF hr_17) rfl Dl rfl (by kernel_rfl) (by kernel_rfl) (by kernel_rfl) (by kernel_rfl) (by kernel_rfl) (by kernel_rfl) (by kernel_rfl) (by decide) (by kernel_rfl) wz (vI r_16.1) (by kernel_rfl) ([((av 0),some (.cells 2 [(vL eI r_16.2.L),(vI r_16.2.f_at)])),(n_6,gB 9 Alert.enc r_3.1)]:Hp) (by kernel_rfl) ?_
    obtain ⟨_,hi_19,h_14⟩:=bind_some h_14
    refine Df qJ rfl rfl (qx hi_19) (mq hi_19) wz (ae (.ref n_6 (0+(r_16.1).toNat) 0) wz rfl (ai (af (aa (ae (.ref (av 0) 0 0) wz rfl ?_)))))
    obtain ⟨r_20,hr_21,h_14⟩:=bind_some h_14
    refine aS 0 [0] il ft (eF hr_21) rfl Dl rfl (by kernel_rfl) (by kernel_rfl) (by kernel_rfl) (by kernel_rfl) (by kernel_rfl) (by kernel_rfl) (by kernel_rfl) (by decide) (by kernel_rfl) wz (vI r_20.1) (by kernel_rfl) ([((av 0),some (.cells 2 [(vL eI r_20.2.L),(vI r_20.2.f_at)])),(n_6,gB 9 Alert.enc r_3.1)]:Hp) (by kernel_rfl) (ai (aD (af (aa (ae (vB (r_20.1==0)) wz rfl (ae (vB (r_20.1==0)) wz rfl (ai ?_)))))))
    rcases ak h_14 with⟨hc_23,h_14⟩|⟨hc_23,h_14⟩
    ·refine aA rfl hc_23 (aa (ae (.ref n_6 (0+(r_16.1).toNat) 0) wz rfl (ae (.ref n_6 (0+(r_16.1).toNat) 0) wz rfl (ae (.ref (av 0) 0 0) wz rfl (ae (.ref n_6 (0+(r_16.1).toNat) 0) wz rfl (ae (.ref n_6 (0+(r_16.1).toNat) 0) wz rfl (aI eD rfl 0 rfl wz ?_)))))))
     obtain ⟨e_24,hy_25,h_14⟩:=bind_some h_14
     refine oP 0 1 il ft sz9 ag9 rfl rfl hy_25 (vS e_24.Id) rfl wz (dQ (([e_24.Id,(⟨#[]⟩:ByteArray),(⟨#[97,97]⟩:ByteArray)]:List ByteArray).map eS) jZ qp rfl rfl rfl rfl rfl wz ?_)
     obtain ⟨r_26,hr_27,h_14⟩:=bind_some h_14
     refine aS 0 [0] il ft (eu hr_27) rfl DF rfl (by kernel_rfl) (by kernel_rfl) (by kernel_rfl) (by kernel_rfl) (by kernel_rfl) (by kernel_rfl) (by kernel_rfl) (by decide) (by kernel_rfl) wz (vS r_26.1) (by kernel_rfl) ([((av 0),some (.cells 2 [(vL eI r_26.2.L),(vI r_26.2.f_at)])),(n_6,gB 9 Alert.enc r_3.1)]:Hp) (by kernel_rfl) (ae (.ref (av 0) 0 0) wz rfl (dQ (([(⟨#[119,120]⟩:ByteArray),(⟨#[65]⟩:ByteArray)]:List ByteArray).map eS) jZ qp rfl rfl rfl rfl rfl wz ?_))
     obtain ⟨r_29,hr_30,h_14⟩:=bind_some h_14
     refine aS 0 [0] il ft (eu hr_30) rfl DF rfl (by kernel_rfl) (by kernel_rfl) (by kernel_rfl) (by kernel_rfl) (by kernel_rfl) (by kernel_rfl) (by kernel_rfl) (by decide) (by kernel_rfl) wz (vS r_29.1) (by kernel_rfl) ([((av 0),some (.cells 2 [(vL eI r_29.2.L),(vI r_29.2.f_at)])),(n_6,gB 9 Alert.enc r_3.1)]:Hp) (by kernel_rfl) (ae (.ref n_6 (0+(r_16.1).toNat) 0) wz rfl (aI eD rfl 0 rfl wz ?_))
     obtain ⟨e_32,hy_33,h_14⟩:=bind_some h_14
     refine lZ 0 il ft 1 sz9 rfl rfl hy_33 (⟨r_26.1,e_32.Sender,e_32.Kind,e_32.Refs,e_32.At,e_32.Until,e_32.Weight,e_32.Areas,e_32.Text⟩:Alert) rfl wz (dK (v':=(gV n_6 9 (r_3.1.set (0+(r_16.1).toNat) (⟨r_26.1,e_32.Sender,e_32.Kind,e_32.Refs,e_32.At,e_32.Until,e_32.Weight,e_32.Areas,e_32.Text⟩:Alert)))) 5 rfl (bU (by simp)) (dK (v':=(gV n_6 9 (r_3.1.set (0+(r_16.1).toNat) (⟨r_26.1,e_32.Sender,e_32.Kind,e_32.Refs,e_32.At,e_32.Until,e_32.Weight,e_32.Areas,e_32.Text⟩:Alert)))) 17 rfl (bU (by simp)) (dK (v':=(gV n_6 9 (r_3.1.set (0+(r_16.1).toNat) (⟨r_26.1,e_32.Sender,e_32.Kind,e_32.Refs,e_32.At,e_32.Until,e_32.Weight,e_32.Areas,e_32.Text⟩:Alert)))) 19 rfl (bU (by simp)) (ae (.ref n_6 (0+(r_16.1).toNat) 0) wz rfl (aI vC rfl 1 rfl wz ?_)))))
     obtain ⟨e_34,hy_35,h_14⟩:=bind_some h_14
     refine lZ 0 il ft 1 sz9 rfl rfl hy_35 (⟨e_34.Id,r_29.1,e_34.Kind,e_34.Refs,e_34.At,e_34.Until,e_34.Weight,e_34.Areas,e_34.Text⟩:Alert) rfl wz (dK (v':=(gV n_6 9 ((r_3.1.set (0+(r_16.1).toNat) (⟨r_26.1,e_32.Sender,e_32.Kind,e_32.Refs,e_32.At,e_32.Until,e_32.Weight,e_32.Areas,e_32.Text⟩:Alert)).set (0+(r_16.1).toNat) (⟨e_34.Id,r_29.1,e_34.Kind,e_34.Refs,e_34.At,e_34.Until,e_34.Weight,e_34.Areas,e_34.Text⟩:Alert)))) 5 rfl (bU (by simp)) (dK (v':=(gV n_6 9 ((r_3.1.set (0+(r_16.1).toNat) (⟨r_26.1,e_32.Sender,e_32.Kind,e_32.Refs,e_32.At,e_32.Until,e_32.Weight,e_32.Areas,e_32.Text⟩:Alert)).set (0+(r_16.1).toNat) (⟨e_34.Id,r_29.1,e_34.Kind,e_34.Refs,e_34.At,e_34.Until,e_34.Weight,e_34.Areas,e_34.Text⟩:Alert)))) 17 rfl (bU (by simp)) (dK (v':=(gV n_6 9 ((r_3.1.set (0+(r_16.1).toNat) (⟨r_26.1,e_32.Sender,e_32.Kind,e_32.Refs,e_32.At,e_32.Until,e_32.Weight,e_32.Areas,e_32.Text⟩:Alert)).set (0+(r_16.1).toNat) (⟨e_34.Id,r_29.1,e_34.Kind,e_34.Refs,e_34.At,e_34.Until,e_34.Weight,e_34.Areas,e_34.Text⟩:Alert)))) 19 rfl (bU (by simp)) (ai ?_))))
     obtain rfl:=ah h_14
     exact cu
    ·refine ay rfl hc_23 (af (aa (ae (vB (r_20.1==1)) wz rfl (ae (vB (r_20.1==1)) wz rfl (ai ?_)))))
     rcases ak h_14 with⟨hc_36,h_14⟩|⟨hc_36,h_14⟩
     ·refine aA rfl hc_36 (aa (ae (.ref n_6 (0+(r_16.1).toNat) 0) wz rfl (ae (.ref (av 0) 0 0) wz rfl ?_)))
      obtain ⟨r_37,hr_38,h_14⟩:=bind_some h_14
      refine aS 0 [0] il ft (fQ hr_38) rfl EG rfl (by kernel_rfl) (by kernel_rfl) (by kernel_rfl) (by kernel_rfl) (by kernel_rfl) (by kernel_rfl) (by kernel_rfl) (by decide) (by kernel_rfl) wz (vI r_37.1) (by kernel_rfl) ([((av 0),some (.cells 2 [(vL eI r_37.2.L),(vI r_37.2.f_at)])),(n_6,gB 9 Alert.enc r_3.1)]:Hp) (by kernel_rfl) (ae (.ref n_6 (0+(r_16.1).toNat) 0) wz rfl (aI lQ rfl 2 rfl wz ?_))
      obtain ⟨e_40,hy_41,h_14⟩:=bind_some h_14
      refine lZ 0 il ft 1 sz3 rfl rfl hy_41 (⟨e_40.Id,e_40.Sender,r_37.1,e_40.Refs,e_40.At,e_40.Until,e_40.Weight,e_40.Areas,e_40.Text⟩:Alert) rfl wz (dK (v':=(gV n_6 9 (r_3.1.set (0+(r_16.1).toNat) (⟨e_40.Id,e_40.Sender,r_37.1,e_40.Refs,e_40.At,e_40.Until,e_40.Weight,e_40.Areas,e_40.Text⟩:Alert)))) 5 rfl (bU (by simp)) (dK (v':=(gV n_6 9 (r_3.1.set (0+(r_16.1).toNat) (⟨e_40.Id,e_40.Sender,r_37.1,e_40.Refs,e_40.At,e_40.Until,e_40.Weight,e_40.Areas,e_40.Text⟩:Alert)))) 17 rfl (bU (by simp)) (dK (v':=(gV n_6 9 (r_3.1.set (0+(r_16.1).toNat) (⟨e_40.Id,e_40.Sender,r_37.1,e_40.Refs,e_40.At,e_40.Until,e_40.Weight,e_40.Areas,e_40.Text⟩:Alert)))) 19 rfl (bU (by simp)) (ai ?_))))
      obtain rfl:=ah h_14
      exact cu
     ·refine ay rfl hc_36 (af (aa (ae (vB (r_20.1==2)) wz rfl (ae (vB (r_20.1==2)) wz rfl (ai ?_)))))
      rcases ak h_14 with⟨hc_42,h_14⟩|⟨hc_42,h_14⟩
      ·refine aA rfl hc_42 (bR (ae (.ref n_6 (0+(r_16.1).toNat) 0) wz rfl (dQ (([(⟨#[97,98]⟩:ByteArray),(⟨#[97,97]⟩:ByteArray)]:List ByteArray).map eS) jZ qp rfl rfl rfl rfl rfl wz (ae (.ref n_6 (0+(r_16.1).toNat) 0) wz rfl (ae (.ref n_6 (0+(r_16.1).toNat) 0) wz rfl (aI eD rfl 0 rfl wz ?_))))))
       obtain ⟨e_43,hy_44,h_14⟩:=bind_some h_14
       refine oP 5 1 (.inr (by kernel_rfl)) (λ_ _ ag=>trivial) sz9 ag9 rfl rfl hy_44 (vS e_43.Id) rfl wz (dQ (([e_43.Id]:List ByteArray).map eS) jZ qp rfl rfl rfl rfl rfl wz (dQ (([(⟨#[65]⟩:ByteArray)]:List ByteArray).map eS) jZ qp rfl rfl rfl rfl rfl wz (dQ (([(⟨#[97,97]⟩:ByteArray),(⟨#[122,122]⟩:ByteArray)]:List ByteArray).map eS) jZ qp rfl rfl rfl rfl rfl wz (dQ (([([]:List ByteArray),([(⟨#[97,98]⟩:ByteArray),(⟨#[97,97]⟩:ByteArray)]:List ByteArray),([e_43.Id]:List ByteArray),([(⟨#[65]⟩:ByteArray)]:List ByteArray),([(⟨#[97,97]⟩:ByteArray),(⟨#[122,122]⟩:ByteArray)]:List ByteArray)]:List (List ByteArray)).map (eL eS)) es161 ez161 rfl rfl rfl rfl rfl wz (ae (.ref (av 0) 0 0) wz rfl ?_)))))
       obtain ⟨r_45,hr_46,h_14⟩:=bind_some h_14
       refine aS 11 [0] (.inr (by kernel_rfl)) (λ_ _ ag=>by exact⟨.inr (.inl (dis1 (Jj ag (i:=0) (j:=1) rfl rfl (by decide)))),trivial⟩) (eF hr_46) rfl Dl rfl (by kernel_rfl) (by kernel_rfl) (by kernel_rfl) (by kernel_rfl) (by kernel_rfl) (by kernel_rfl) (by kernel_rfl) (by decide) (by kernel_rfl) wz (vI r_45.1) (by kernel_rfl) ([((av 0),some (.cells 2 [(vL eI r_45.2.L),(vI r_45.2.f_at)])),(n_6,gB 9 Alert.enc r_3.1)]:Hp) (by kernel_rfl) ?_
       obtain ⟨y_48,hy_49,h_14⟩:=bind_some h_14
       refine fU es161 rfl rfl hy_49 rfl wz (dn xL zT rfl (vL eS y_48) rfl wz (ae (.ref n_6 (0+(r_16.1).toNat) 0) wz rfl (aI kQ rfl 3 rfl wz ?_)))
       obtain ⟨e_50,hy_51,h_14⟩:=bind_some h_14
       refine lZ 16 (.inr (by kernel_rfl)) (λ_ _ ag=>⟨.inr (.inr (by kernel_rfl)),⟨.inr (.inr (by kernel_rfl)),trivial⟩⟩) 1 xL rfl rfl hy_51 (⟨e_50.Id,e_50.Sender,e_50.Kind,y_48,e_50.At,e_50.Until,e_50.Weight,e_50.Areas,e_50.Text⟩:Alert) rfl wz (dK (v':=(gV n_6 9 (r_3.1.set (0+(r_16.1).toNat) (⟨e_50.Id,e_50.Sender,e_50.Kind,y_48,e_50.At,e_50.Until,e_50.Weight,e_50.Areas,e_50.Text⟩:Alert)))) 5 rfl (bU (by simp)) (dK (v':=(gV n_6 9 (r_3.1.set (0+(r_16.1).toNat) (⟨e_50.Id,e_50.Sender,e_50.Kind,y_48,e_50.At,e_50.Until,e_50.Weight,e_50.Areas,e_50.Text⟩:Alert)))) 17 rfl (bU (by simp)) (dK (v':=(gV n_6 9 (r_3.1.set (0+(r_16.1).toNat) (⟨e_50.Id,e_50.Sender,e_50.Kind,y_48,e_50.At,e_50.Until,e_50.Weight,e_50.Areas,e_50.Text⟩:Alert)))) 19 rfl (bU (by simp)) (ai ?_))))
       obtain rfl:=ah h_14
       exact cu
      ·refine ay rfl hc_42 (af (aa (ae (vB (r_20.1==3)) wz rfl (ae (vB (r_20.1==3)) wz rfl (ai ?_)))))
       rcases ak h_14 with⟨hc_52,h_14⟩|⟨hc_52,h_14⟩
       ·refine aA rfl hc_52 (aa (ae (.ref n_6 (0+(r_16.1).toNat) 0) wz rfl (ae (.ref n_6 (0+(r_16.1).toNat) 0) wz rfl (ae (.ref (av 0) 0 0) wz rfl ?_))))
        obtain ⟨r_53,hr_54,h_14⟩:=bind_some h_14
        refine aS 0 [0] il ft (fQ hr_54) rfl EG rfl (by kernel_rfl) (by kernel_rfl) (by kernel_rfl) (by kernel_rfl) (by kernel_rfl) (by kernel_rfl) (by kernel_rfl) (by decide) (by kernel_rfl) wz (vI r_53.1) (by kernel_rfl) ([((av 0),some (.cells 2 [(vL eI r_53.2.L),(vI r_53.2.f_at)])),(n_6,gB 9 Alert.enc r_3.1)]:Hp) (by kernel_rfl) (ae (.ref (av 0) 0 0) wz rfl ?_)
        obtain ⟨r_56,hr_57,h_14⟩:=bind_some h_14
        refine aS 0 [0] il ft (fQ hr_57) rfl EG rfl (by kernel_rfl) (by kernel_rfl) (by kernel_rfl) (by kernel_rfl) (by kernel_rfl) (by kernel_rfl) (by kernel_rfl) (by decide) (by kernel_rfl) wz (vI r_56.1) (by kernel_rfl) ([((av 0),some (.cells 2 [(vL eI r_56.2.L),(vI r_56.2.f_at)])),(n_6,gB 9 Alert.enc r_3.1)]:Hp) (by kernel_rfl) (ae (.ref n_6 (0+(r_16.1).toNat) 0) wz rfl (aI fq rfl 4 rfl wz ?_))
        obtain ⟨e_59,hy_60,h_14⟩:=bind_some h_14
        refine lZ 0 il ft 1 sz3 rfl rfl hy_60 (⟨e_59.Id,e_59.Sender,e_59.Kind,e_59.Refs,r_53.1,e_59.Until,e_59.Weight,e_59.Areas,e_59.Text⟩:Alert) rfl wz (dK (v':=(gV n_6 9 (r_3.1.set (0+(r_16.1).toNat) (⟨e_59.Id,e_59.Sender,e_59.Kind,e_59.Refs,r_53.1,e_59.Until,e_59.Weight,e_59.Areas,e_59.Text⟩:Alert)))) 5 rfl (bU (by simp)) (dK (v':=(gV n_6 9 (r_3.1.set (0+(r_16.1).toNat) (⟨e_59.Id,e_59.Sender,e_59.Kind,e_59.Refs,r_53.1,e_59.Until,e_59.Weight,e_59.Areas,e_59.Text⟩:Alert)))) 17 rfl (bU (by simp)) (dK (v':=(gV n_6 9 (r_3.1.set (0+(r_16.1).toNat) (⟨e_59.Id,e_59.Sender,e_59.Kind,e_59.Refs,r_53.1,e_59.Until,e_59.Weight,e_59.Areas,e_59.Text⟩:Alert)))) 19 rfl (bU (by simp)) (ae (.ref n_6 (0+(r_16.1).toNat) 0) wz rfl (aI xu rfl 5 rfl wz ?_)))))
        obtain ⟨e_61,hy_62,h_14⟩:=bind_some h_14
        refine lZ 0 il ft 1 sz3 rfl rfl hy_62 (⟨e_61.Id,e_61.Sender,e_61.Kind,e_61.Refs,e_61.At,r_56.1,e_61.Weight,e_61.Areas,e_61.Text⟩:Alert) rfl wz (dK (v':=(gV n_6 9 ((r_3.1.set (0+(r_16.1).toNat) (⟨e_59.Id,e_59.Sender,e_59.Kind,e_59.Refs,r_53.1,e_59.Until,e_59.Weight,e_59.Areas,e_59.Text⟩:Alert)).set (0+(r_16.1).toNat) (⟨e_61.Id,e_61.Sender,e_61.Kind,e_61.Refs,e_61.At,r_56.1,e_61.Weight,e_61.Areas,e_61.Text⟩:Alert)))) 5 rfl (bU (by simp)) (dK (v':=(gV n_6 9 ((r_3.1.set (0+(r_16.1).toNat) (⟨e_59.Id,e_59.Sender,e_59.Kind,e_59.Refs,r_53.1,e_59.Until,e_59.Weight,e_59.Areas,e_59.Text⟩:Alert)).set (0+(r_16.1).toNat) (⟨e_61.Id,e_61.Sender,e_61.Kind,e_61.Refs,e_61.At,r_56.1,e_61.Weight,e_61.Areas,e_61.Text⟩:Alert)))) 17 rfl (bU (by simp)) (dK (v':=(gV n_6 9 ((r_3.1.set (0+(r_16.1).toNat) (⟨e_59.Id,e_59.Sender,e_59.Kind,e_59.Refs,r_53.1,e_59.Until,e_59.Weight,e_59.Areas,e_59.Text⟩:Alert)).set (0+(r_16.1).toNat) (⟨e_61.Id,e_61.Sender,e_61.Kind,e_61.Refs,e_61.At,r_56.1,e_61.Weight,e_61.Areas,e_61.Text⟩:Alert)))) 19 rfl (bU (by simp)) (ai ?_))))
        obtain rfl:=ah h_14
        exact cu
       ·refine ay rfl hc_52 (af (aa (ae (vB (r_20.1==4)) wz rfl (ae (vB (r_20.1==4)) wz rfl (ai ?_)))))
        rcases ak h_14 with⟨hc_63,h_14⟩|⟨hc_63,h_14⟩
        ·refine aA rfl hc_63 (aa (ae (.ref n_6 (0+(r_16.1).toNat) 0) wz rfl (ae (.ref n_6 (0+(r_16.1).toNat) 0) wz rfl (ae (.ref (av 0) 0 0) wz rfl ?_))))
         obtain ⟨r_64,hr_65,h_14⟩:=bind_some h_14
         refine aS 0 [0] il ft (yc hr_65) rfl hb82 rfl (by kernel_rfl) (by kernel_rfl) (by kernel_rfl) (by kernel_rfl) (by kernel_rfl) (by kernel_rfl) (by kernel_rfl) (by decide) (by kernel_rfl) wz (vL Rect.enc r_64.1) (by kernel_rfl) ([((av 0),some (.cells 2 [(vL eI r_64.2.L),(vI r_64.2.f_at)])),(n_6,gB 9 Alert.enc r_3.1)]:Hp) (by kernel_rfl) (ae (.ref (av 0) 0 0) wz rfl ?_)
         obtain ⟨r_67,hr_68,h_14⟩:=bind_some h_14
         refine aS 0 [0] il ft (fQ hr_68) rfl EG rfl (by kernel_rfl) (by kernel_rfl) (by kernel_rfl) (by kernel_rfl) (by kernel_rfl) (by kernel_rfl) (by kernel_rfl) (by decide) (by kernel_rfl) wz (vI r_67.1) (by kernel_rfl) ([((av 0),some (.cells 2 [(vL eI r_67.2.L),(vI r_67.2.f_at)])),(n_6,gB 9 Alert.enc r_3.1)]:Hp) (by kernel_rfl) (ae (.ref n_6 (0+(r_16.1).toNat) 0) wz rfl (aI oF rfl 7 rfl wz ?_))
         obtain ⟨e_70,hy_71,h_14⟩:=bind_some h_14
         refine lZ 0 il ft 1 BQ rfl rfl hy_71 (⟨e_70.Id,e_70.Sender,e_70.Kind,e_70.Refs,e_70.At,e_70.Until,e_70.Weight,r_64.1,e_70.Text⟩:Alert) rfl wz (dK (v':=(gV n_6 9 (r_3.1.set (0+(r_16.1).toNat) (⟨e_70.Id,e_70.Sender,e_70.Kind,e_70.Refs,e_70.At,e_70.Until,e_70.Weight,r_64.1,e_70.Text⟩:Alert)))) 5 rfl (bU (by simp)) (dK (v':=(gV n_6 9 (r_3.1.set (0+(r_16.1).toNat) (⟨e_70.Id,e_70.Sender,e_70.Kind,e_70.Refs,e_70.At,e_70.Until,e_70.Weight,r_64.1,e_70.Text⟩:Alert)))) 17 rfl (bU (by simp)) (dK (v':=(gV n_6 9 (r_3.1.set (0+(r_16.1).toNat) (⟨e_70.Id,e_70.Sender,e_70.Kind,e_70.Refs,e_70.At,e_70.Until,e_70.Weight,r_64.1,e_70.Text⟩:Alert)))) 19 rfl (bU (by simp)) (ae (.ref n_6 (0+(r_16.1).toNat) 0) wz rfl (aI Fe rfl 6 rfl wz ?_)))))
         obtain ⟨e_72,hy_73,h_14⟩:=bind_some h_14
         refine lZ 0 il ft 1 sz3 rfl rfl hy_73 (⟨e_72.Id,e_72.Sender,e_72.Kind,e_72.Refs,e_72.At,e_72.Until,r_67.1,e_72.Areas,e_72.Text⟩:Alert) rfl wz (dK (v':=(gV n_6 9 ((r_3.1.set (0+(r_16.1).toNat) (⟨e_70.Id,e_70.Sender,e_70.Kind,e_70.Refs,e_70.At,e_70.Until,e_70.Weight,r_64.1,e_70.Text⟩:Alert)).set (0+(r_16.1).toNat) (⟨e_72.Id,e_72.Sender,e_72.Kind,e_72.Refs,e_72.At,e_72.Until,r_67.1,e_72.Areas,e_72.Text⟩:Alert)))) 5 rfl (bU (by simp)) (dK (v':=(gV n_6 9 ((r_3.1.set (0+(r_16.1).toNat) (⟨e_70.Id,e_70.Sender,e_70.Kind,e_70.Refs,e_70.At,e_70.Until,e_70.Weight,r_64.1,e_70.Text⟩:Alert)).set (0+(r_16.1).toNat) (⟨e_72.Id,e_72.Sender,e_72.Kind,e_72.Refs,e_72.At,e_72.Until,r_67.1,e_72.Areas,e_72.Text⟩:Alert)))) 17 rfl (bU (by simp)) (dK (v':=(gV n_6 9 ((r_3.1.set (0+(r_16.1).toNat) (⟨e_70.Id,e_70.Sender,e_70.Kind,e_70.Refs,e_70.At,e_70.Until,e_70.Weight,r_64.1,e_70.Text⟩:Alert)).set (0+(r_16.1).toNat) (⟨e_72.Id,e_72.Sender,e_72.Kind,e_72.Refs,e_72.At,e_72.Until,r_67.1,e_72.Areas,e_72.Text⟩:Alert)))) 19 rfl (bU (by simp)) (ai ?_))))
         obtain rfl:=ah h_14
         exact cu
        ·refine ay rfl hc_63 (aa (ae (.ref n_6 (0+(r_16.1).toNat) 0) wz rfl (ae (.ref (av 0) 0 0) wz rfl (dQ (([(⟨#[]⟩:ByteArray),(⟨#[32,120]⟩:ByteArray),(⟨#[97,32,32,98]⟩:ByteArray),(⟨#[10]⟩:ByteArray),(⟨#[255]⟩:ByteArray)]:List ByteArray).map eS) jZ qp rfl rfl rfl rfl rfl wz ?_))))
         obtain ⟨r_74,hr_75,h_14⟩:=bind_some h_14
         refine aS 0 [0] il ft (eu hr_75) rfl DF rfl (by kernel_rfl) (by kernel_rfl) (by kernel_rfl) (by kernel_rfl) (by kernel_rfl) (by kernel_rfl) (by kernel_rfl) (by decide) (by kernel_rfl) wz (vS r_74.1) (by kernel_rfl) ([((av 0),some (.cells 2 [(vL eI r_74.2.L),(vI r_74.2.f_at)])),(n_6,gB 9 Alert.enc r_3.1)]:Hp) (by kernel_rfl) (ae (.ref n_6 (0+(r_16.1).toNat) 0) wz rfl (aI tu rfl 8 rfl wz ?_))
         obtain ⟨e_77,hy_78,h_14⟩:=bind_some h_14
         refine lZ 0 il ft 1 sz9 rfl rfl hy_78 (⟨e_77.Id,e_77.Sender,e_77.Kind,e_77.Refs,e_77.At,e_77.Until,e_77.Weight,e_77.Areas,r_74.1⟩:Alert) rfl wz (dK (v':=(gV n_6 9 (r_3.1.set (0+(r_16.1).toNat) (⟨e_77.Id,e_77.Sender,e_77.Kind,e_77.Refs,e_77.At,e_77.Until,e_77.Weight,e_77.Areas,r_74.1⟩:Alert)))) 5 rfl (bU (by simp)) (dK (v':=(gV n_6 9 (r_3.1.set (0+(r_16.1).toNat) (⟨e_77.Id,e_77.Sender,e_77.Kind,e_77.Refs,e_77.At,e_77.Until,e_77.Weight,e_77.Areas,r_74.1⟩:Alert)))) 17 rfl (bU (by simp)) (dK (v':=(gV n_6 9 (r_3.1.set (0+(r_16.1).toNat) (⟨e_77.Id,e_77.Sender,e_77.Kind,e_77.Refs,e_77.At,e_77.Until,e_77.Weight,e_77.Areas,r_74.1⟩:Alert)))) 19 rfl (bU (by simp)) (ai ?_))))
         obtain rfl:=ah h_14
         exact cu
   ·refine ay rfl hc_15 (au ?_)
    obtain rfl:=ah h_14
    exact cu
  ·rintro ⟨⟩ _ sl_ H_ hp_ hq_
   refine aN _ hp_ hq_ (af (aa (ae (gV n_6 9 v_13.1) wz rfl (ae (gV n_6 9 v_13.1) wz rfl (ai (jv 1 rfl (gP 4 1 rfl rfl (gP 5 1 rfl rfl (gP 98 1 rfl rfl ?_)))))))))
   obtain rfl:=ah hF
   exact ax (rW (.inr rfl) [(vL Alert.enc v_13.1)] _ [0] [av 0] ⟨rfl,trivial⟩ (.cons (gH rfl rfl) (.nil)) (by kernel_rfl) ⟨(by kernel_rfl),trivial⟩ (by decide) (by kernel_rfl))
theorem tH {s_1:Stream} {r:(List Post)×Stream} (hF:iW s_1=some r) :
  FnM Tryz.prog 39 [(.ref (av 0) 0 0)] [(.cells 2 [(vL eI s_1.L),(vI s_1.f_at)])] (gV (av 1) 3 r.1) (([(.cells 2 [(vL eI r.2.L),(vI r.2.f_at)])]:List Box).map some++gO 3 Post.enc r.1):=by
 refine FnM.of_wH ⟨Tryz.prog,26,[],[]⟩ rfl Tryz.func39 rfl rfl (lb_ rfl) (by kernel_rfl) ?_
 unfold iW at hF
 refine af (aa (ae .nil wz rfl (ai (af (aa (ae .nil wz rfl (ai (af (af (aa (dQ (([(⟨#[112,97]⟩:ByteArray),(⟨#[112,98]⟩:ByteArray),(⟨#[112,99]⟩:ByteArray)]:List ByteArray).map eS) jZ qp rfl rfl rfl rfl rfl wz (bN rA rfl wz (ae (vI 0) wz rfl (ai (rF (λn_8 => ?_))))))))))))))))
 obtain ⟨o_13,hj_14,hF⟩:=bind_some hF
 obtain ⟨hn_6,hj_14⟩:=aU hj_14
 refine aG (β:=((List Post)×(List Int)×Int)×Nm) (λp=>(λ(s_7:(List Post)×(List Int)×Int) (n_10:Nm)=>([(3,(gV n_10 3 s_7.1))]:SL_)) p.1 p.2) (λp=>(λ(s_7:(List Post)×(List Int)×Int) (n_10:Nm)=>([((av 0),some (.cells 2 [(vL eI s_7.2.1),(vI s_7.2.2)])),(n_10,gB 3 Post.enc s_7.1)]:Hp)) p.1 p.2) (λp=>o_13 = .go p.1) ?_ ?_
 ·refine aD (bf (β:=Nat×(List ByteArray)×((List Post)×(List Int)×Int)×Nm) (λp=>(λ(k_2:Nat) (l_3:List ByteArray) (s_7:(List Post)×(List Int)×Int) (n_10:Nm)=>([(0,(.ref (av 0) 0 0)),(3,(gV n_10 3 s_7.1)),(6,(vL eS ([(⟨#[112,97]⟩:ByteArray),(⟨#[112,98]⟩:ByteArray),(⟨#[112,99]⟩:ByteArray)]:List ByteArray))),(7,(vI (([(⟨#[112,97]⟩:ByteArray),(⟨#[112,98]⟩:ByteArray),(⟨#[112,99]⟩:ByteArray)]:List ByteArray).length:Int))),(8,(vI (k_2:Int)))]:SL_)) p.1 p.2.1 p.2.2.1 p.2.2.2) (λp=>(λ(k_2:Nat) (l_3:List ByteArray) (s_7:(List Post)×(List Int)×Int) (n_10:Nm)=>([((av 0),some (.cells 2 [(vL eI s_7.2.1),(vI s_7.2.2)])),(n_10,gB 3 Post.enc s_7.1)]:Hp)) p.1 p.2.1 p.2.2.1 p.2.2.2) (λp=>forR (λk x s=>fG k x s) p.2.1 p.1 p.2.2.1=some o_13/\(([(⟨#[112,97]⟩:ByteArray),(⟨#[112,98]⟩:ByteArray),(⟨#[112,99]⟩:ByteArray)]:List ByteArray)).drop p.1=p.2.1) (λp=>p.2.1.length) (0,([(⟨#[112,97]⟩:ByteArray),(⟨#[112,98]⟩:ByteArray),(⟨#[112,99]⟩:ByteArray)]:List ByteArray),(([]:List Post),s_1.L,s_1.f_at),n_8) ⟨hj_14,rfl⟩ rfl (aJ rfl) ?_)
  rintro ⟨k_2,l_3,s_7,n_10⟩ ⟨hL_12,hD_5⟩
  dsimp only at hL_12 hD_5
  cases l_3 with
  | nil =>
   obtain rfl:=ah hL_12
   refine af (aa (ae (vB (decide ((k_2:Int)<(([(⟨#[112,97]⟩:ByteArray),(⟨#[112,98]⟩:ByteArray),(⟨#[112,99]⟩:ByteArray)]:List ByteArray).length:Int)))) wz rfl (ai ?_)))
   refine af (ay rfl (drop_nil hD_5) (aW ?_))
   exact aZ (s_7,n_10) rfl rfl (aJ rfl)
  | cons x_4 l_3 =>
   obtain ⟨c_,hc_11,hL_12⟩:=bind_some hL_12
   refine af (aa (ae (vB (decide ((k_2:Int)<(([(⟨#[112,97]⟩:ByteArray),(⟨#[112,98]⟩:ByteArray),(⟨#[112,99]⟩:ByteArray)]:List ByteArray).length:Int)))) wz rfl (ai ?_)))
   refine af (aA rfl (aY hD_5) (au ?_))
   unfold fG at hc_11
   refine af (aD (af (aa (fU jZ rfl rfl (bz hD_5) rfl wz (dn sz9 ag9 rfl (vS x_4) rfl wz (ae (vS x_4) wz rfl (ai (af (aa (ae (.ref (av 0) 0 0) wz rfl ?_))))))))))
   obtain ⟨r_15,hr_16,hc_11⟩:=bind_some hc_11
   refine aS 0 [0] il ft (fC hr_16) rfl Ff rfl (by kernel_rfl) (by kernel_rfl) (by kernel_rfl) (by kernel_rfl) (by kernel_rfl) (by kernel_rfl) (by kernel_rfl) (by decide) (by kernel_rfl) wz (vB r_15.1) (by kernel_rfl) ([((av 0),some (.cells 2 [(vL eI r_15.2.L),(vI r_15.2.f_at)])),(n_10,gB 3 Post.enc s_7.1)]:Hp) (by kernel_rfl) (ae (vB (!r_15.1)) wz rfl (ai ?_))
   obtain ⟨v_18,h_19,hc_11⟩:=bind_some hc_11
   refine aG (β:=Nm) (λ(n_20:Nm)=>([(0,(.ref (av 0) 0 0)),(3,(gV n_20 3 v_18.1)),(6,(vL eS ([(⟨#[112,97]⟩:ByteArray),(⟨#[112,98]⟩:ByteArray),(⟨#[112,99]⟩:ByteArray)]:List ByteArray))),(7,(vI (([(⟨#[112,97]⟩:ByteArray),(⟨#[112,98]⟩:ByteArray),(⟨#[112,99]⟩:ByteArray)]:List ByteArray).length:Int))),(8,(vI (k_2:Int)))]:SL_)) (λ(n_20:Nm)=>([((av 0),some (.cells 2 [(vL eI v_18.2.1),(vI v_18.2.2)])),(n_20,gB 3 Post.enc v_18.1)]:Hp)) (λ_=>True) ?_ ?_
   ·rcases ak h_19 with⟨hc_21,h_19⟩|⟨hc_21,h_19⟩
    ·refine aA rfl hc_21 (aa (ae (gV n_10 3 s_7.1) wz rfl (ae (vS x_4) wz rfl (ae (.ref (av 0) 0 0) wz rfl ?_))))
     obtain ⟨r_22,hr_23,h_19⟩:=bind_some h_19
     refine aS 0 [0] il ft (di hr_23) rfl AZ rfl (by kernel_rfl) (by kernel_rfl) (by kernel_rfl) (by kernel_rfl) (by kernel_rfl) (by kernel_rfl) (by kernel_rfl) (by decide) (by kernel_rfl) wz (vI r_22.1) (by kernel_rfl) ([((av 0),some (.cells 2 [(vL eI r_22.2.L),(vI r_22.2.f_at)])),(n_10,gB 3 Post.enc s_7.1)]:Hp) (by kernel_rfl) (ae (.ref (av 0) 0 0) wz rfl ?_)
     obtain ⟨r_25,hr_26,h_19⟩:=bind_some h_19
     refine aS 0 [0] il ft (di hr_26) rfl AZ rfl (by kernel_rfl) (by kernel_rfl) (by kernel_rfl) (by kernel_rfl) (by kernel_rfl) (by kernel_rfl) (by kernel_rfl) (by decide) (by kernel_rfl) wz (vI r_25.1) (by kernel_rfl) ([((av 0),some (.cells 2 [(vL eI r_25.2.L),(vI r_25.2.f_at)])),(n_10,gB 3 Post.enc s_7.1)]:Hp) (by kernel_rfl) (ae (.d (.agg (Post.enc (⟨x_4,r_22.1,r_25.1⟩:Post)))) wz (by kernel_rfl) (dQ (([(⟨x_4,r_22.1,r_25.1⟩:Post)]:List Post).map Post.enc) A9 ez63 rfl rfl rfl rfl rfl wz ?_))
     obtain ⟨a_28,hz_29,h_19⟩:=bind_some h_19
     refine o7 0 il ft (i:=1) el63 el63 pg z66 rfl (by decide) by66 (by decide) (λ_=>rfl) rfl rfl rfl hz_29 wz (λn_30=>ae (gV n_30 3 a_28) wz rfl (ai ?_))
     obtain rfl:=ah h_19
     exact aZ n_30 trivial rfl (aJ rfl)
    ·refine ay rfl hc_21 (au ?_)
     obtain rfl:=ah h_19
     exact aZ n_10 trivial rfl (aJ rfl)
   ·rintro n_20 _ sl_ H_ hp_ hq_
    refine aN _ hp_ hq_ (aa (dX (bg hD_5 hn_6) wz rfl (ae (vI ((k_2+1:Nat):Int)) wz rfl (ai ?_))))
    obtain rfl:=ah hc_11
    exact aV (k_2+1,l_3,(v_18.1,v_18.2.1,v_18.2.2),n_20) ⟨hL_12,aQ hD_5⟩ (ls_ _) rfl (aJ rfl)
 ·rintro ⟨s_7,n_10⟩ ho_ sl_ H_ hp_ hq_
  subst ho_
  refine aN _ hp_ hq_ (af (aa (ae (gV n_10 3 s_7.1) wz rfl (ae (gV n_10 3 s_7.1) wz rfl (ai ?_)))))
  obtain rfl:=ah hF
  exact ax (finG (outs:=([(.cells 2 [(vL eI s_7.2.1),(vI s_7.2.2)])]:List Box)) (.inr rfl) 1 rfl rfl rfl (by kernel_rfl) (by kernel_rfl))
theorem x9 {s_1:Stream} {r:(List Post)×Stream} (hF:lw s_1=some r) :
  FnM Tryz.prog 22 [(.ref (av 0) 0 0)] [(.cells 2 [(vL eI s_1.L),(vI s_1.f_at)])] (vL Post.enc r.1) [some (.cells 2 [(vL eI r.2.L),(vI r.2.f_at)])]:=by
 refine FnM.of_wH ⟨Tryz.prog,36,[],[]⟩ rfl Tryz.func22 rfl rfl (lb_ rfl) (by kernel_rfl) ?_
 unfold lw at hF
 refine af (aa (ae .nil wz rfl (ai (af (aa (ae (.ref (av 0) 0 0) wz rfl ?_))))))
 obtain ⟨r_2,hr_3,hF⟩:=bind_some hF
 refine Bi [0] (tH hr_3) rfl hb39 rfl (by kernel_rfl) (by kernel_rfl) (by kernel_rfl) (by kernel_rfl) (by kernel_rfl) rfl (by decide) (by kernel_rfl) wz ([((av 0),some (.cells 2 [(vL eI r_2.2.L),(vI r_2.2.f_at)]))]:Hp) (λ_=>by kernel_rfl) (λn_5=>ae (gV n_5 3 r_2.1) wz rfl (ai (af (af ?_))))
 obtain ⟨v_6,h_7,hF⟩:=bind_some hF
 refine aG (β:=Unit) (λ_=>([(0,(.ref (av 0) 0 0)),(3,(gV n_5 3 r_2.1)),(13,(vB v_6.1))]:SL_)) (λ_=>([((av 0),some (.cells 2 [(vL eI v_6.2.1),(vI v_6.2.2)])),(n_5,gB 3 Post.enc r_2.1)]:Hp)) (λ_=>True) ?_ ?_
 ·refine aa (ae (gV n_5 3 r_2.1) wz rfl (yl AY rfl wz (ae (vB (decide ((r_2.1.length:Int)>0))) wz rfl ?_)))
  rcases ak h_7 with⟨hc_8,h_7⟩|⟨hc_8,h_7⟩
  ·refine aC rfl hc_8 wz (ae (.ref (av 0) 0 0) wa rfl ?_)
   obtain ⟨r_9,hr_10,h_7⟩:=bind_some h_7
   refine aS 0 [0] il ft (fC hr_10) rfl Ff rfl (by kernel_rfl) (by kernel_rfl) (by kernel_rfl) (by kernel_rfl) (by kernel_rfl) (by kernel_rfl) (by kernel_rfl) (by decide) (by kernel_rfl) wa (vB r_9.1) (by kernel_rfl) ([((av 0),some (.cells 2 [(vL eI r_9.2.L),(vI r_9.2.f_at)])),(n_5,gB 3 Post.enc r_2.1)]:Hp) (by kernel_rfl) (ae (vB r_9.1) wz rfl (ai ?_))
   obtain rfl:=ah h_7
   exact cu
  ·refine aC rfl hc_8 wz (aj wa (aj wa (ae (vB false) wz rfl (ai ?_))))
   obtain rfl:=ah h_7
   exact cu
 ·rintro ⟨⟩ _ sl_ H_ hp_ hq_
  refine aN _ hp_ hq_ ?_
  obtain ⟨v_12,h_13,hF⟩:=bind_some hF
  refine aG (β:=Unit) (λ_=>([(3,(gV n_5 3 v_12.1))]:SL_)) (λ_=>([((av 0),some (.cells 2 [(vL eI v_12.2.1),(vI v_12.2.2)])),(n_5,gB 3 Post.enc v_12.1)]:Hp)) (λ_=>True) ?_ ?_
  ·rcases ak h_13 with⟨hc_14,h_13⟩|⟨hc_14,h_13⟩
   ·refine aA rfl hc_14 (af (aa (ae (gV n_5 3 r_2.1) wz rfl (ae (.ref (av 0) 0 0) wz rfl (ae (gV n_5 3 r_2.1) wz rfl (yl AY rfl wz ?_))))))
    obtain ⟨r_15,hr_16,h_13⟩:=bind_some h_13
    refine aS 0 [0] il ft (eF hr_16) rfl Dl rfl (by kernel_rfl) (by kernel_rfl) (by kernel_rfl) (by kernel_rfl) (by kernel_rfl) (by kernel_rfl) (by kernel_rfl) (by decide) (by kernel_rfl) wz (vI r_15.1) (by kernel_rfl) ([((av 0),some (.cells 2 [(vL eI r_15.2.L),(vI r_15.2.f_at)])),(n_5,gB 3 Post.enc r_2.1)]:Hp) (by kernel_rfl) ?_
    obtain ⟨_,hi_18,h_13⟩:=bind_some h_13
    refine Df A9 rfl rfl (qx hi_18) (mq hi_18) wz (ae (.ref n_5 (0+(r_15.1).toNat) 0) wz rfl (ai (aa (ae (.ref n_5 (0+(r_15.1).toNat) 0) wz rfl (ae (.ref n_5 (0+(r_15.1).toNat) 0) wz rfl (ae (.ref (av 0) 0 0) wz rfl (ae (.ref n_5 (0+(r_15.1).toNat) 0) wz rfl (ae (.ref n_5 (0+(r_15.1).toNat) 0) wz rfl (aI mg rfl 0 rfl wz ?_)))))))))
    obtain ⟨e_19,hy_20,h_13⟩:=bind_some h_13
    refine oP 0 1 il ft sz9 ag9 rfl rfl hy_20 (vS e_19.Player) rfl wz (dQ (([e_19.Player,(⟨#[]⟩:ByteArray),(⟨#[112,97]⟩:ByteArray)]:List ByteArray).map eS) jZ qp rfl rfl rfl rfl rfl wz ?_)
    obtain ⟨r_21,hr_22,h_13⟩:=bind_some h_13
    refine aS 0 [0] il ft (eu hr_22) rfl DF rfl (by kernel_rfl) (by kernel_rfl) (by kernel_rfl) (by kernel_rfl) (by kernel_rfl) (by kernel_rfl) (by kernel_rfl) (by decide) (by kernel_rfl) wz (vS r_21.1) (by kernel_rfl) ([((av 0),some (.cells 2 [(vL eI r_21.2.L),(vI r_21.2.f_at)])),(n_5,gB 3 Post.enc r_2.1)]:Hp) (by kernel_rfl) (ae (.ref (av 0) 0 0) wz rfl ?_)
    obtain ⟨r_24,hr_25,h_13⟩:=bind_some h_13
    refine aS 0 [0] il ft (fQ hr_25) rfl EG rfl (by kernel_rfl) (by kernel_rfl) (by kernel_rfl) (by kernel_rfl) (by kernel_rfl) (by kernel_rfl) (by kernel_rfl) (by decide) (by kernel_rfl) wz (vI r_24.1) (by kernel_rfl) ([((av 0),some (.cells 2 [(vL eI r_24.2.L),(vI r_24.2.f_at)])),(n_5,gB 3 Post.enc r_2.1)]:Hp) (by kernel_rfl) (ae (.ref n_5 (0+(r_15.1).toNat) 0) wz rfl (aI mg rfl 0 rfl wz ?_))
    obtain ⟨e_27,hy_28,h_13⟩:=bind_some h_13
    refine lZ 0 il ft 1 sz9 rfl rfl hy_28 (⟨r_21.1,e_27.X,e_27.Y⟩:Post) rfl wz (dK (v':=(gV n_5 3 (r_2.1.set (0+(r_15.1).toNat) (⟨r_21.1,e_27.X,e_27.Y⟩:Post)))) 3 rfl (bU (by simp)) (dK (v':=(gV n_5 3 (r_2.1.set (0+(r_15.1).toNat) (⟨r_21.1,e_27.X,e_27.Y⟩:Post)))) 14 rfl (bU (by simp)) (dK (v':=(gV n_5 3 (r_2.1.set (0+(r_15.1).toNat) (⟨r_21.1,e_27.X,e_27.Y⟩:Post)))) 16 rfl (bU (by simp)) (ae (.ref n_5 (0+(r_15.1).toNat) 0) wz rfl (aI Ar rfl 1 rfl wz ?_)))))
    obtain ⟨e_29,hy_30,h_13⟩:=bind_some h_13
    refine lZ 0 il ft 1 sz3 rfl rfl hy_30 (⟨e_29.Player,r_24.1,e_29.Y⟩:Post) rfl wz (dK (v':=(gV n_5 3 ((r_2.1.set (0+(r_15.1).toNat) (⟨r_21.1,e_27.X,e_27.Y⟩:Post)).set (0+(r_15.1).toNat) (⟨e_29.Player,r_24.1,e_29.Y⟩:Post)))) 3 rfl (bU (by simp)) (dK (v':=(gV n_5 3 ((r_2.1.set (0+(r_15.1).toNat) (⟨r_21.1,e_27.X,e_27.Y⟩:Post)).set (0+(r_15.1).toNat) (⟨e_29.Player,r_24.1,e_29.Y⟩:Post)))) 14 rfl (bU (by simp)) (dK (v':=(gV n_5 3 ((r_2.1.set (0+(r_15.1).toNat) (⟨r_21.1,e_27.X,e_27.Y⟩:Post)).set (0+(r_15.1).toNat) (⟨e_29.Player,r_24.1,e_29.Y⟩:Post)))) 16 rfl (bU (by simp)) (ai ?_))))
    obtain rfl:=ah h_13
    exact cu
   ·refine ay rfl hc_14 (au ?_)
    obtain rfl:=ah h_13
    exact cu
  ·rintro ⟨⟩ _ sl_ H_ hp_ hq_
   refine aN _ hp_ hq_ (af (aa (ae (gV n_5 3 v_12.1) wz rfl (ae (gV n_5 3 v_12.1) wz rfl (ai (jv 1 rfl (gP 2 1 rfl rfl (gP 3 1 rfl rfl (gP 35 1 rfl rfl ?_)))))))))
   obtain rfl:=ah hF
   exact ax (rW (.inr rfl) [(vL Post.enc v_12.1)] _ [0] [av 0] ⟨rfl,trivial⟩ (.cons (gH rfl rfl) (.nil)) (by kernel_rfl) ⟨(by kernel_rfl),trivial⟩ (by decide) (by kernel_rfl))
theorem oZ {s_1:Stream} {r:(List Receipt)×Stream} (hF:iJ s_1=some r) :
  FnM Tryz.prog 46 [(.ref (av 0) 0 0)] [(.cells 2 [(vL eI s_1.L),(vI s_1.f_at)])] (vL Receipt.enc r.1) [some (.cells 2 [(vL eI r.2.L),(vI r.2.f_at)])]:=by
 refine FnM.of_wH ⟨Tryz.prog,82,[],[]⟩ rfl Tryz.func46 rfl rfl (lb_ rfl) (by kernel_rfl) ?_
 unfold iJ at hF
 refine af (aa (ae .nil wz rfl (ai (af (aa (ae .nil wz rfl (ai (af (af (aa (dQ (([(⟨#[112,97]⟩:ByteArray),(⟨#[112,98]⟩:ByteArray),(⟨#[112,99]⟩:ByteArray)]:List ByteArray).map eS) jZ qp rfl rfl rfl rfl rfl wz (bN rA rfl wz (ae (vI 0) wz rfl (ai (rF (λn_8 => ?_))))))))))))))))
 obtain ⟨o_13,hj_14,hF⟩:=bind_some hF
 obtain ⟨hn_6,hj_14⟩:=aU hj_14
 refine aG (β:=((List Receipt)×(List Int)×Int)×Nm) (λp=>(λ(s_7:(List Receipt)×(List Int)×Int) (n_10:Nm)=>([(0,(.ref (av 0) 0 0)),(3,(gV n_10 4 s_7.1))]:SL_)) p.1 p.2) (λp=>(λ(s_7:(List Receipt)×(List Int)×Int) (n_10:Nm)=>([((av 0),some (.cells 2 [(vL eI s_7.2.1),(vI s_7.2.2)])),(n_10,gB 4 Receipt.enc s_7.1)]:Hp)) p.1 p.2) (λp=>o_13 = .go p.1) ?_ ?_
 ·refine aD (bf (β:=Nat×(List ByteArray)×((List Receipt)×(List Int)×Int)×Nm) (λp=>(λ(k_2:Nat) (l_3:List ByteArray) (s_7:(List Receipt)×(List Int)×Int) (n_10:Nm)=>([(0,(.ref (av 0) 0 0)),(3,(gV n_10 4 s_7.1)),(11,(vL eS ([(⟨#[112,97]⟩:ByteArray),(⟨#[112,98]⟩:ByteArray),(⟨#[112,99]⟩:ByteArray)]:List ByteArray))),(12,(vI (([(⟨#[112,97]⟩:ByteArray),(⟨#[112,98]⟩:ByteArray),(⟨#[112,99]⟩:ByteArray)]:List ByteArray).length:Int))),(13,(vI (k_2:Int)))]:SL_)) p.1 p.2.1 p.2.2.1 p.2.2.2) (λp=>(λ(k_2:Nat) (l_3:List ByteArray) (s_7:(List Receipt)×(List Int)×Int) (n_10:Nm)=>([((av 0),some (.cells 2 [(vL eI s_7.2.1),(vI s_7.2.2)])),(n_10,gB 4 Receipt.enc s_7.1)]:Hp)) p.1 p.2.1 p.2.2.1 p.2.2.2) (λp=>forR (λk x s=>iB k x s) p.2.1 p.1 p.2.2.1=some o_13/\(([(⟨#[112,97]⟩:ByteArray),(⟨#[112,98]⟩:ByteArray),(⟨#[112,99]⟩:ByteArray)]:List ByteArray)).drop p.1=p.2.1) (λp=>p.2.1.length) (0,([(⟨#[112,97]⟩:ByteArray),(⟨#[112,98]⟩:ByteArray),(⟨#[112,99]⟩:ByteArray)]:List ByteArray),(([]:List Receipt),s_1.L,s_1.f_at),n_8) ⟨hj_14,rfl⟩ rfl (aJ rfl) ?_)
  rintro ⟨k_2,l_3,s_7,n_10⟩ ⟨hL_12,hD_5⟩
  dsimp only at hL_12 hD_5
  cases l_3 with
  | nil =>
   obtain rfl:=ah hL_12
   refine af (aa (ae (vB (decide ((k_2:Int)<(([(⟨#[112,97]⟩:ByteArray),(⟨#[112,98]⟩:ByteArray),(⟨#[112,99]⟩:ByteArray)]:List ByteArray).length:Int)))) wz rfl (ai ?_)))
   refine af (ay rfl (drop_nil hD_5) (aW ?_))
   exact aZ (s_7,n_10) rfl rfl (aJ rfl)
  | cons x_4 l_3 =>
   obtain ⟨c_,hc_11,hL_12⟩:=bind_some hL_12
   refine af (aa (ae (vB (decide ((k_2:Int)<(([(⟨#[112,97]⟩:ByteArray),(⟨#[112,98]⟩:ByteArray),(⟨#[112,99]⟩:ByteArray)]:List ByteArray).length:Int)))) wz rfl (ai ?_)))
   refine af (aA rfl (aY hD_5) (au ?_))
   unfold iB at hc_11
   refine af (aD (af (aa (fU jZ rfl rfl (bz hD_5) rfl wz (dn sz9 ag9 rfl (vS x_4) rfl wz (ae (vS x_4) wz rfl (ai (af (aa (dQ (([(⟨#[97,97]⟩:ByteArray),(⟨#[97,98]⟩:ByteArray),(⟨#[97,99]⟩:ByteArray)]:List ByteArray).map eS) jZ qp rfl rfl rfl rfl rfl wz (bN rA rfl wz (ae (vI 0) wz rfl (ai ?_)))))))))))))
   obtain ⟨o_25,hj_26,hc_11⟩:=bind_some hc_11
   obtain ⟨hn_19,hj_26⟩:=aU hj_26
   refine aG (β:=((List Receipt)×(List Int)×Int)×Nm) (λp=>(λ(s_20:(List Receipt)×(List Int)×Int) (n_22:Nm)=>([(0,(.ref (av 0) 0 0)),(3,(gV n_22 4 s_20.1)),(11,(vL eS ([(⟨#[112,97]⟩:ByteArray),(⟨#[112,98]⟩:ByteArray),(⟨#[112,99]⟩:ByteArray)]:List ByteArray))),(12,(vI (([(⟨#[112,97]⟩:ByteArray),(⟨#[112,98]⟩:ByteArray),(⟨#[112,99]⟩:ByteArray)]:List ByteArray).length:Int))),(13,(vI (k_2:Int)))]:SL_)) p.1 p.2) (λp=>(λ(s_20:(List Receipt)×(List Int)×Int) (n_22:Nm)=>([((av 0),some (.cells 2 [(vL eI s_20.2.1),(vI s_20.2.2)])),(n_22,gB 4 Receipt.enc s_20.1)]:Hp)) p.1 p.2) (λp=>o_25 = .go p.1) ?_ ?_
   ·refine aD (bf (β:=Nat×(List ByteArray)×((List Receipt)×(List Int)×Int)×Nm) (λp=>(λ(k_15:Nat) (l_16:List ByteArray) (s_20:(List Receipt)×(List Int)×Int) (n_22:Nm)=>([(0,(.ref (av 0) 0 0)),(3,(gV n_22 4 s_20.1)),(5,(vS x_4)),(11,(vL eS ([(⟨#[112,97]⟩:ByteArray),(⟨#[112,98]⟩:ByteArray),(⟨#[112,99]⟩:ByteArray)]:List ByteArray))),(12,(vI (([(⟨#[112,97]⟩:ByteArray),(⟨#[112,98]⟩:ByteArray),(⟨#[112,99]⟩:ByteArray)]:List ByteArray).length:Int))),(13,(vI (k_2:Int))),(17,(vL eS ([(⟨#[97,97]⟩:ByteArray),(⟨#[97,98]⟩:ByteArray),(⟨#[97,99]⟩:ByteArray)]:List ByteArray))),(18,(vI (([(⟨#[97,97]⟩:ByteArray),(⟨#[97,98]⟩:ByteArray),(⟨#[97,99]⟩:ByteArray)]:List ByteArray).length:Int))),(19,(vI (k_15:Int)))]:SL_)) p.1 p.2.1 p.2.2.1 p.2.2.2) (λp=>(λ(k_15:Nat) (l_16:List ByteArray) (s_20:(List Receipt)×(List Int)×Int) (n_22:Nm)=>([((av 0),some (.cells 2 [(vL eI s_20.2.1),(vI s_20.2.2)])),(n_22,gB 4 Receipt.enc s_20.1)]:Hp)) p.1 p.2.1 p.2.2.1 p.2.2.2) (λp=>forR (λk x s=>iC x_4 k x s) p.2.1 p.1 p.2.2.1=some o_25/\(([(⟨#[97,97]⟩:ByteArray),(⟨#[97,98]⟩:ByteArray),(⟨#[97,99]⟩:ByteArray)]:List ByteArray)).drop p.1=p.2.1) (λp=>p.2.1.length) (0,([(⟨#[97,97]⟩:ByteArray),(⟨#[97,98]⟩:ByteArray),(⟨#[97,99]⟩:ByteArray)]:List ByteArray),(s_7.1,s_7.2.1,s_7.2.2),n_10) ⟨hj_26,rfl⟩ rfl (aJ rfl) ?_)
    rintro ⟨k_15,l_16,s_20,n_22⟩ ⟨hL_24,hD_18⟩
    dsimp only at hL_24 hD_18
    cases l_16 with
    | nil =>
     obtain rfl:=ah hL_24
     refine af (aa (ae (vB (decide ((k_15:Int)<(([(⟨#[97,97]⟩:ByteArray),(⟨#[97,98]⟩:ByteArray),(⟨#[97,99]⟩:ByteArray)]:List ByteArray).length:Int)))) wz rfl (ai ?_)))
     refine af (ay rfl (drop_nil hD_18) (aW ?_))
     exact aZ (s_20,n_22) rfl rfl (aJ rfl)
    | cons x_17 l_16 =>
     obtain ⟨c_,hc_23,hL_24⟩:=bind_some hL_24
     refine af (aa (ae (vB (decide ((k_15:Int)<(([(⟨#[97,97]⟩:ByteArray),(⟨#[97,98]⟩:ByteArray),(⟨#[97,99]⟩:ByteArray)]:List ByteArray).length:Int)))) wz rfl (ai ?_)))
     refine af (aA rfl (aY hD_18) (au ?_))
     unfold iC at hc_23
     refine af (aD (af (aa (fU jZ rfl rfl (bz hD_18) rfl wz (dn sz9 ag9 rfl (vS x_17) rfl wz (ae (vS x_17) wz rfl (ai (af (aa (dQ (([false,true]:List Bool).map eB) es196 ez196 rfl rfl rfl rfl rfl wz (bN un196 rfl wz (ae (vI 0) wz rfl (ai ?_)))))))))))))
     obtain ⟨o_37,hj_38,hc_23⟩:=bind_some hc_23
     obtain ⟨hn_31,hj_38⟩:=aU hj_38
     refine aG (β:=((List Receipt)×(List Int)×Int)×Nm) (λp=>(λ(s_32:(List Receipt)×(List Int)×Int) (n_34:Nm)=>([(0,(.ref (av 0) 0 0)),(3,(gV n_34 4 s_32.1)),(5,(vS x_4)),(11,(vL eS ([(⟨#[112,97]⟩:ByteArray),(⟨#[112,98]⟩:ByteArray),(⟨#[112,99]⟩:ByteArray)]:List ByteArray))),(12,(vI (([(⟨#[112,97]⟩:ByteArray),(⟨#[112,98]⟩:ByteArray),(⟨#[112,99]⟩:ByteArray)]:List ByteArray).length:Int))),(13,(vI (k_2:Int))),(17,(vL eS ([(⟨#[97,97]⟩:ByteArray),(⟨#[97,98]⟩:ByteArray),(⟨#[97,99]⟩:ByteArray)]:List ByteArray))),(18,(vI (([(⟨#[97,97]⟩:ByteArray),(⟨#[97,98]⟩:ByteArray),(⟨#[97,99]⟩:ByteArray)]:List ByteArray).length:Int))),(19,(vI (k_15:Int)))]:SL_)) p.1 p.2) (λp=>(λ(s_32:(List Receipt)×(List Int)×Int) (n_34:Nm)=>([((av 0),some (.cells 2 [(vL eI s_32.2.1),(vI s_32.2.2)])),(n_34,gB 4 Receipt.enc s_32.1)]:Hp)) p.1 p.2) (λp=>o_37 = .go p.1) ?_ ?_
     ·refine aD (bf (β:=Nat×(List Bool)×((List Receipt)×(List Int)×Int)×Nm) (λp=>(λ(k_27:Nat) (l_28:List Bool) (s_32:(List Receipt)×(List Int)×Int) (n_34:Nm)=>([(0,(.ref (av 0) 0 0)),(3,(gV n_34 4 s_32.1)),(5,(vS x_4)),(7,(vS x_17)),(11,(vL eS ([(⟨#[112,97]⟩:ByteArray),(⟨#[112,98]⟩:ByteArray),(⟨#[112,99]⟩:ByteArray)]:List ByteArray))),(12,(vI (([(⟨#[112,97]⟩:ByteArray),(⟨#[112,98]⟩:ByteArray),(⟨#[112,99]⟩:ByteArray)]:List ByteArray).length:Int))),(13,(vI (k_2:Int))),(17,(vL eS ([(⟨#[97,97]⟩:ByteArray),(⟨#[97,98]⟩:ByteArray),(⟨#[97,99]⟩:ByteArray)]:List ByteArray))),(18,(vI (([(⟨#[97,97]⟩:ByteArray),(⟨#[97,98]⟩:ByteArray),(⟨#[97,99]⟩:ByteArray)]:List ByteArray).length:Int))),(19,(vI (k_15:Int))),(23,(vL eB ([false,true]:List Bool))),(24,(vI (([false,true]:List Bool).length:Int))),(25,(vI (k_27:Int)))]:SL_)) p.1 p.2.1 p.2.2.1 p.2.2.2) (λp=>(λ(k_27:Nat) (l_28:List Bool) (s_32:(List Receipt)×(List Int)×Int) (n_34:Nm)=>([((av 0),some (.cells 2 [(vL eI s_32.2.1),(vI s_32.2.2)])),(n_34,gB 4 Receipt.enc s_32.1)]:Hp)) p.1 p.2.1 p.2.2.1 p.2.2.2) (λp=>forR (λk x s=>iA x_4 x_17 k x s) p.2.1 p.1 p.2.2.1=some o_37/\(([false,true]:List Bool)).drop p.1=p.2.1) (λp=>p.2.1.length) (0,([false,true]:List Bool),(s_20.1,s_20.2.1,s_20.2.2),n_22) ⟨hj_38,rfl⟩ rfl (aJ rfl) ?_)
      rintro ⟨k_27,l_28,s_32,n_34⟩ ⟨hL_36,hD_30⟩
      dsimp only at hL_36 hD_30
      cases l_28 with
      | nil =>
       obtain rfl:=ah hL_36
       refine af (aa (ae (vB (decide ((k_27:Int)<(([false,true]:List Bool).length:Int)))) wz rfl (ai ?_)))
       refine af (ay rfl (drop_nil hD_30) (aW ?_))
       exact aZ (s_32,n_34) rfl rfl (aJ rfl)
      | cons x_29 l_28 =>
       obtain ⟨c_,hc_35,hL_36⟩:=bind_some hL_36
       refine af (aa (ae (vB (decide ((k_27:Int)<(([false,true]:List Bool).length:Int)))) wz rfl (ai ?_)))
       refine af (aA rfl (aY hD_30) (au ?_))
       unfold iA at hc_35
       refine af (aD (af (aa (fU es196 rfl rfl (bz hD_30) rfl wz (dn sz4 ag4 rfl (vB x_29) rfl wz (ae (vB x_29) wz rfl (ai (af (aa (ae (.ref (av 0) 0 0) wz rfl ?_))))))))))
       obtain ⟨r_39,hr_40,hc_35⟩:=bind_some hc_35
       refine aS 0 [0] il ft (fC hr_40) rfl Ff rfl (by kernel_rfl) (by kernel_rfl) (by kernel_rfl) (by kernel_rfl) (by kernel_rfl) (by kernel_rfl) (by kernel_rfl) (by decide) (by kernel_rfl) wz (vB r_39.1) (by kernel_rfl) ([((av 0),some (.cells 2 [(vL eI r_39.2.L),(vI r_39.2.f_at)])),(n_34,gB 4 Receipt.enc s_32.1)]:Hp) (by kernel_rfl) (ai ?_)
       obtain ⟨v_42,h_43,hc_35⟩:=bind_some hc_35
       refine aG (β:=Nm) (λ(n_44:Nm)=>([(0,(.ref (av 0) 0 0)),(3,(gV n_44 4 v_42.1)),(5,(vS x_4)),(7,(vS x_17)),(11,(vL eS ([(⟨#[112,97]⟩:ByteArray),(⟨#[112,98]⟩:ByteArray),(⟨#[112,99]⟩:ByteArray)]:List ByteArray))),(12,(vI (([(⟨#[112,97]⟩:ByteArray),(⟨#[112,98]⟩:ByteArray),(⟨#[112,99]⟩:ByteArray)]:List ByteArray).length:Int))),(13,(vI (k_2:Int))),(17,(vL eS ([(⟨#[97,97]⟩:ByteArray),(⟨#[97,98]⟩:ByteArray),(⟨#[97,99]⟩:ByteArray)]:List ByteArray))),(18,(vI (([(⟨#[97,97]⟩:ByteArray),(⟨#[97,98]⟩:ByteArray),(⟨#[97,99]⟩:ByteArray)]:List ByteArray).length:Int))),(19,(vI (k_15:Int))),(23,(vL eB ([false,true]:List Bool))),(24,(vI (([false,true]:List Bool).length:Int))),(25,(vI (k_27:Int)))]:SL_)) (λ(n_44:Nm)=>([((av 0),some (.cells 2 [(vL eI v_42.2.1),(vI v_42.2.2)])),(n_44,gB 4 Receipt.enc v_42.1)]:Hp)) (λ_=>True) ?_ ?_
       ·rcases ak h_43 with⟨hc_45,h_43⟩|⟨hc_45,h_43⟩
        ·refine aA rfl hc_45 (aa (ae (gV n_34 4 s_32.1) wz rfl (ae (vS x_4) wz rfl (ae (vS x_17) wz rfl (ae (.ref (av 0) 0 0) wz rfl ?_)))))
         obtain ⟨r_46,hr_47,h_43⟩:=bind_some h_43
         refine aS 0 [0] il ft (di hr_47) rfl AZ rfl (by kernel_rfl) (by kernel_rfl) (by kernel_rfl) (by kernel_rfl) (by kernel_rfl) (by kernel_rfl) (by kernel_rfl) (by decide) (by kernel_rfl) wz (vI r_46.1) (by kernel_rfl) ([((av 0),some (.cells 2 [(vL eI r_46.2.L),(vI r_46.2.f_at)])),(n_34,gB 4 Receipt.enc s_32.1)]:Hp) (by kernel_rfl) (ae (vB x_29) wz rfl (ae (.d (.agg (Receipt.enc (⟨x_4,x_17,r_46.1,x_29⟩:Receipt)))) wz (by kernel_rfl) (dQ (([(⟨x_4,x_17,r_46.1,x_29⟩:Receipt)]:List Receipt).map Receipt.enc) qQ ez89 rfl rfl rfl rfl rfl wz ?_)))
         obtain ⟨a_49,hz_50,h_43⟩:=bind_some h_43
         refine o7 0 il ft (i:=1) Fv Fv jh z91 rfl (by decide) by91 (by decide) (λ_=>rfl) rfl rfl rfl hz_50 wz (λn_51=>ae (gV n_51 4 a_49) wz rfl (ai ?_))
         obtain rfl:=ah h_43
         exact aZ n_51 trivial rfl (aJ rfl)
        ·refine ay rfl hc_45 (au ?_)
         obtain rfl:=ah h_43
         exact aZ n_34 trivial rfl (aJ rfl)
       ·rintro n_44 _ sl_ H_ hp_ hq_
        refine aN _ hp_ hq_ (aa (dX (bg hD_30 hn_31) wz rfl (ae (vI ((k_27+1:Nat):Int)) wz rfl (ai ?_))))
        obtain rfl:=ah hc_35
        exact aV (k_27+1,l_28,(v_42.1,v_42.2.1,v_42.2.2),n_44) ⟨hL_36,aQ hD_30⟩ (ls_ _) rfl (aJ rfl)
     ·rintro ⟨s_32,n_34⟩ ho_ sl_ H_ hp_ hq_
      subst ho_
      refine aN _ hp_ hq_ (aa (dX (bg hD_18 hn_19) wz rfl (ae (vI ((k_15+1:Nat):Int)) wz rfl (ai ?_))))
      obtain rfl:=ah hc_23
      exact aV (k_15+1,l_16,(s_32.1,s_32.2.1,s_32.2.2),n_34) ⟨hL_24,aQ hD_18⟩ (ls_ _) rfl (aJ rfl)
   ·rintro ⟨s_20,n_22⟩ ho_ sl_ H_ hp_ hq_
    subst ho_
    refine aN _ hp_ hq_ (aa (dX (bg hD_5 hn_6) wz rfl (ae (vI ((k_2+1:Nat):Int)) wz rfl (ai ?_))))
    obtain rfl:=ah hc_11
    exact aV (k_2+1,l_3,(s_20.1,s_20.2.1,s_20.2.2),n_22) ⟨hL_12,aQ hD_5⟩ (ls_ _) rfl (aJ rfl)
 ·rintro ⟨s_7,n_10⟩ ho_ sl_ H_ hp_ hq_
  subst ho_
  refine aN _ hp_ hq_ (af (af ?_))
  obtain ⟨v_52,h_53,hF⟩:=bind_some hF
  refine aG (β:=Unit) (λ_=>([(0,(.ref (av 0) 0 0)),(3,(gV n_10 4 s_7.1)),(49,(vB v_52.1))]:SL_)) (λ_=>([((av 0),some (.cells 2 [(vL eI v_52.2.1),(vI v_52.2.2)])),(n_10,gB 4 Receipt.enc s_7.1)]:Hp)) (λ_=>True) ?_ ?_
  ·refine aa (ae (gV n_10 4 s_7.1) wz rfl (yl nE rfl wz (ae (vB (decide ((s_7.1.length:Int)>0))) wz rfl ?_)))
   rcases ak h_53 with⟨hc_54,h_53⟩|⟨hc_54,h_53⟩
   ·refine aC rfl hc_54 wz (ae (.ref (av 0) 0 0) wa rfl ?_)
    obtain ⟨r_55,hr_56,h_53⟩:=bind_some h_53
    refine aS 0 [0] il ft (fC hr_56) rfl Ff rfl (by kernel_rfl) (by kernel_rfl) (by kernel_rfl) (by kernel_rfl) (by kernel_rfl) (by kernel_rfl) (by kernel_rfl) (by decide) (by kernel_rfl) wa (vB r_55.1) (by kernel_rfl) ([((av 0),some (.cells 2 [(vL eI r_55.2.L),(vI r_55.2.f_at)])),(n_10,gB 4 Receipt.enc s_7.1)]:Hp) (by kernel_rfl) (ae (vB r_55.1) wz rfl (ai ?_))
    obtain rfl:=ah h_53
    exact cu
   ·refine aC rfl hc_54 wz (aj wa (aj wa (ae (vB false) wz rfl (ai ?_))))
    obtain rfl:=ah h_53
    exact cu
  ·rintro ⟨⟩ _ sl_ H_ hp_ hq_
   refine aN _ hp_ hq_ ?_
   obtain ⟨v_58,h_59,hF⟩:=bind_some hF
   refine aG (β:=Unit) (λ_=>([(3,(gV n_10 4 v_58.1))]:SL_)) (λ_=>([((av 0),some (.cells 2 [(vL eI v_58.2.1),(vI v_58.2.2)])),(n_10,gB 4 Receipt.enc v_58.1)]:Hp)) (λ_=>True) ?_ ?_
   ·rcases ak h_59 with⟨hc_60,h_59⟩|⟨hc_60,h_59⟩
    ·refine aA rfl hc_60 (af (aa (ae (gV n_10 4 s_7.1) wz rfl (ae (.ref (av 0) 0 0) wz rfl (ae (gV n_10 4 s_7.1) wz rfl (yl nE rfl wz ?_))))))
     obtain ⟨r_61,hr_62,h_59⟩:=bind_some h_59
     refine aS 0 [0] il ft (eF hr_62) rfl Dl rfl (by kernel_rfl) (by kernel_rfl) (by kernel_rfl) (by kernel_rfl) (by kernel_rfl) (by kernel_rfl) (by kernel_rfl) (by decide) (by kernel_rfl) wz (vI r_61.1) (by kernel_rfl) ([((av 0),some (.cells 2 [(vL eI r_61.2.L),(vI r_61.2.f_at)])),(n_10,gB 4 Receipt.enc s_7.1)]:Hp) (by kernel_rfl) ?_
     obtain ⟨_,hi_64,h_59⟩:=bind_some h_59
     refine Df qQ rfl rfl (qx hi_64) (mq hi_64) wz (ae (.ref n_10 (0+(r_61.1).toNat) 0) wz rfl (ai (bR (ae (.ref n_10 (0+(r_61.1).toNat) 0) wz rfl (ae (.ref n_10 (0+(r_61.1).toNat) 0) wz rfl (ae (.ref n_10 (0+(r_61.1).toNat) 0) wz rfl (ae (.ref (av 0) 0 0) wz rfl (ae (.ref n_10 (0+(r_61.1).toNat) 0) wz rfl (ae (.ref n_10 (0+(r_61.1).toNat) 0) wz rfl (aI rZ rfl 0 rfl wz ?_))))))))))
     obtain ⟨e_65,hy_66,h_59⟩:=bind_some h_59
     refine oP 7 1 (.inr (by kernel_rfl)) (λ_ _ ag=>trivial) sz9 ag9 rfl rfl hy_66 (vS e_65.Player) rfl wz (dQ (([e_65.Player,(⟨#[]⟩:ByteArray),(⟨#[122,122]⟩:ByteArray)]:List ByteArray).map eS) jZ qp rfl rfl rfl rfl rfl wz ?_)
     obtain ⟨r_67,hr_68,h_59⟩:=bind_some h_59
     refine aS 9 [0] (.inr (by kernel_rfl)) (λ_ _ ag=>by exact⟨.inr (.inr (by kernel_rfl)),trivial⟩) (eu hr_68) rfl DF rfl (by kernel_rfl) (by kernel_rfl) (by kernel_rfl) (by kernel_rfl) (by kernel_rfl) (by kernel_rfl) (by kernel_rfl) (by decide) (by kernel_rfl) wz (vS r_67.1) (by kernel_rfl) ([((av 0),some (.cells 2 [(vL eI r_67.2.L),(vI r_67.2.f_at)])),(n_10,gB 4 Receipt.enc s_7.1)]:Hp) (by kernel_rfl) (ae (.ref (av 0) 0 0) wz rfl (ae (.ref n_10 (0+(r_61.1).toNat) 0) wz rfl (ae (.ref n_10 (0+(r_61.1).toNat) 0) wz rfl (aI sN rfl 1 rfl wz ?_))))
     obtain ⟨e_70,hy_71,h_59⟩:=bind_some h_59
     refine oP 14 1 (.inr (by kernel_rfl)) (λ_ _ ag=>⟨.inl ⟨rfl,rfl⟩,⟨.inr (.inl (dis1 (Jj ag (i:=1) (j:=0) rfl rfl (by decide)))),trivial⟩⟩) sz9 ag9 rfl rfl hy_71 (vS e_70.Alert) rfl wz (dQ (([e_70.Alert,(⟨#[65]⟩:ByteArray)]:List ByteArray).map eS) jZ qp rfl rfl rfl rfl rfl wz ?_)
     obtain ⟨r_72,hr_73,h_59⟩:=bind_some h_59
     refine aS 16 [0] (.inr (by kernel_rfl)) (λ_ _ ag=>by exact⟨.inr (.inr (by kernel_rfl)),⟨.inr (.inr (by kernel_rfl)),⟨.inr (.inr (by kernel_rfl)),trivial⟩⟩⟩) (eu hr_73) rfl DF rfl (by kernel_rfl) (by kernel_rfl) (by kernel_rfl) (by kernel_rfl) (by kernel_rfl) (by kernel_rfl) (by kernel_rfl) (by decide) (by kernel_rfl) wz (vS r_72.1) (by kernel_rfl) ([((av 0),some (.cells 2 [(vL eI r_72.2.L),(vI r_72.2.f_at)])),(n_10,gB 4 Receipt.enc s_7.1)]:Hp) (by kernel_rfl) (ae (.ref (av 0) 0 0) wz rfl ?_)
     obtain ⟨r_75,hr_76,h_59⟩:=bind_some h_59
     refine aS 18 [0] (.inr (by kernel_rfl)) (λ_ _ ag=>by exact⟨.inr (.inr (by kernel_rfl)),⟨.inr (.inr (by kernel_rfl)),⟨.inr (.inr (by kernel_rfl)),⟨.inr (.inr (by kernel_rfl)),trivial⟩⟩⟩⟩) (fQ hr_76) rfl EG rfl (by kernel_rfl) (by kernel_rfl) (by kernel_rfl) (by kernel_rfl) (by kernel_rfl) (by kernel_rfl) (by kernel_rfl) (by decide) (by kernel_rfl) wz (vI r_75.1) (by kernel_rfl) ([((av 0),some (.cells 2 [(vL eI r_75.2.L),(vI r_75.2.f_at)])),(n_10,gB 4 Receipt.enc s_7.1)]:Hp) (by kernel_rfl) (ae (.ref n_10 (0+(r_61.1).toNat) 0) wz rfl (aI rZ rfl 0 rfl wz ?_))
     obtain ⟨e_78,hy_79,h_59⟩:=bind_some h_59
     refine lZ 21 (.inr (by kernel_rfl)) (λ_ _ ag=>⟨.inr (.inr (by kernel_rfl)),⟨.inr (.inr (by kernel_rfl)),⟨.inr (.inr (by kernel_rfl)),⟨.inr (.inr (by kernel_rfl)),⟨.inr (.inr (by kernel_rfl)),trivial⟩⟩⟩⟩⟩) 1 sz9 rfl rfl hy_79 (⟨r_67.1,e_78.Alert,e_78.At,e_78.Seen⟩:Receipt) rfl wz (dK (v':=(gV n_10 4 (s_7.1.set (0+(r_61.1).toNat) (⟨r_67.1,e_78.Alert,e_78.At,e_78.Seen⟩:Receipt)))) 3 rfl (bU (by simp)) (dK (v':=(gV n_10 4 (s_7.1.set (0+(r_61.1).toNat) (⟨r_67.1,e_78.Alert,e_78.At,e_78.Seen⟩:Receipt)))) 50 rfl (bU (by simp)) (dK (v':=(gV n_10 4 (s_7.1.set (0+(r_61.1).toNat) (⟨r_67.1,e_78.Alert,e_78.At,e_78.Seen⟩:Receipt)))) 52 rfl (bU (by simp)) (ae (.ref n_10 (0+(r_61.1).toNat) 0) wz rfl (aI sN rfl 1 rfl wz ?_)))))
     obtain ⟨e_80,hy_81,h_59⟩:=bind_some h_59
     refine lZ 24 (.inr (by kernel_rfl)) (λ_ _ ag=>⟨.inr (.inr (by kernel_rfl)),⟨.inr (.inr (by kernel_rfl)),⟨.inr (.inr (by kernel_rfl)),⟨.inr (.inr (by kernel_rfl)),⟨.inr (.inr (by kernel_rfl)),⟨.inr (.inr (by kernel_rfl)),trivial⟩⟩⟩⟩⟩⟩) 1 sz9 rfl rfl hy_81 (⟨e_80.Player,r_72.1,e_80.At,e_80.Seen⟩:Receipt) rfl wz (dK (v':=(gV n_10 4 ((s_7.1.set (0+(r_61.1).toNat) (⟨r_67.1,e_78.Alert,e_78.At,e_78.Seen⟩:Receipt)).set (0+(r_61.1).toNat) (⟨e_80.Player,r_72.1,e_80.At,e_80.Seen⟩:Receipt)))) 3 rfl (bU (by simp)) (dK (v':=(gV n_10 4 ((s_7.1.set (0+(r_61.1).toNat) (⟨r_67.1,e_78.Alert,e_78.At,e_78.Seen⟩:Receipt)).set (0+(r_61.1).toNat) (⟨e_80.Player,r_72.1,e_80.At,e_80.Seen⟩:Receipt)))) 50 rfl (bU (by simp)) (dK (v':=(gV n_10 4 ((s_7.1.set (0+(r_61.1).toNat) (⟨r_67.1,e_78.Alert,e_78.At,e_78.Seen⟩:Receipt)).set (0+(r_61.1).toNat) (⟨e_80.Player,r_72.1,e_80.At,e_80.Seen⟩:Receipt)))) 52 rfl (bU (by simp)) (ae (.ref n_10 (0+(r_61.1).toNat) 0) wz rfl (aI nD rfl 2 rfl wz ?_)))))
     obtain ⟨e_82,hy_83,h_59⟩:=bind_some h_59
     refine lZ 27 (.inr (by kernel_rfl)) (λ_ _ ag=>⟨.inr (.inr (by kernel_rfl)),⟨.inr (.inr (by kernel_rfl)),⟨.inr (.inr (by kernel_rfl)),⟨.inr (.inr (by kernel_rfl)),⟨.inr (.inr (by kernel_rfl)),⟨.inr (.inr (by kernel_rfl)),⟨.inr (.inr (by kernel_rfl)),trivial⟩⟩⟩⟩⟩⟩⟩) 1 sz3 rfl rfl hy_83 (⟨e_82.Player,e_82.Alert,r_75.1,e_82.Seen⟩:Receipt) rfl wz (dK (v':=(gV n_10 4 (((s_7.1.set (0+(r_61.1).toNat) (⟨r_67.1,e_78.Alert,e_78.At,e_78.Seen⟩:Receipt)).set (0+(r_61.1).toNat) (⟨e_80.Player,r_72.1,e_80.At,e_80.Seen⟩:Receipt)).set (0+(r_61.1).toNat) (⟨e_82.Player,e_82.Alert,r_75.1,e_82.Seen⟩:Receipt)))) 3 rfl (bU (by simp)) (dK (v':=(gV n_10 4 (((s_7.1.set (0+(r_61.1).toNat) (⟨r_67.1,e_78.Alert,e_78.At,e_78.Seen⟩:Receipt)).set (0+(r_61.1).toNat) (⟨e_80.Player,r_72.1,e_80.At,e_80.Seen⟩:Receipt)).set (0+(r_61.1).toNat) (⟨e_82.Player,e_82.Alert,r_75.1,e_82.Seen⟩:Receipt)))) 50 rfl (bU (by simp)) (dK (v':=(gV n_10 4 (((s_7.1.set (0+(r_61.1).toNat) (⟨r_67.1,e_78.Alert,e_78.At,e_78.Seen⟩:Receipt)).set (0+(r_61.1).toNat) (⟨e_80.Player,r_72.1,e_80.At,e_80.Seen⟩:Receipt)).set (0+(r_61.1).toNat) (⟨e_82.Player,e_82.Alert,r_75.1,e_82.Seen⟩:Receipt)))) 52 rfl (bU (by simp)) (ai ?_))))
     obtain rfl:=ah h_59
     exact cu
    ·refine ay rfl hc_60 (au ?_)
     obtain rfl:=ah h_59
     exact cu
   ·rintro ⟨⟩ _ sl_ H_ hp_ hq_
    refine aN _ hp_ hq_ (af (aa (ae (gV n_10 4 v_58.1) wz rfl (ae (gV n_10 4 v_58.1) wz rfl (ai (jv 1 rfl (gP 2 1 rfl rfl (gP 3 1 rfl rfl (gP 81 1 rfl rfl ?_)))))))))
    obtain rfl:=ah hF
    exact ax (rW (.inr rfl) [(vL Receipt.enc v_58.1)] _ [0] [av 0] ⟨rfl,trivial⟩ (.cons (gH rfl rfl) (.nil)) (by kernel_rfl) ⟨(by kernel_rfl),trivial⟩ (by decide) (by kernel_rfl))
theorem mM {s_1:ByteArray} {r:Bool} (hF:kit_IsKey s_1=some r) :
  FnM Tryz.prog 125 [(vS s_1)] [] (vB r) []:=by
 refine FnM.of_wH ⟨Tryz.prog,48,[],[]⟩ rfl Tryz.func125 rfl rfl (lb_ rfl) (by kernel_rfl) ?_
 unfold kit_IsKey at hF
 refine af (aa (ae (vB false) wz rfl (ai (af (af (aa (ae (vI 0) wz rfl (ai ?_))))))))
 obtain ⟨o_10,hj_11,hF⟩:=bind_some hF
 obtain ⟨nq_33,hj_11⟩:=iR hj_11
 refine aG (β:=(Int)) (λ(s_7:Int)=>([(0,(vS s_1))]:SL_)) (λ(s_7:Int)=>([]:Hp)) (λp=>o_10 = .go p) ?_ ?_
 ·refine aD (bf (β:=Nat×(Int)) (λp=>(λ(k_2:Nat) (s_7:Int)=>([(0,(vS s_1)),(3,(vI s_7))]:SL_)) p.1 p.2) (λp=>(λ(k_2:Nat) (s_7:Int)=>([]:Hp)) p.1 p.2) (λp=>iterN (λs=>jT s_1 s) p.1 p.2=some o_10) (λp=>p.1) (nq_33,0) hj_11 rfl (aJ rfl) ?_)
  rintro ⟨k_2,s_7⟩ hL_9
  dsimp only at hL_9
  cases k_2 with
  | zero=>cases hL_9
  | succ k_2 =>
   obtain ⟨c_,hc_8,hL_9⟩:=bind_some hL_9
   unfold jT at hc_8
   refine af (af (aa (ae (vI s_7) wz rfl (ae (vS s_1) wz rfl (qC un9 rfl wz (ae (vB (decide (s_7<(s_1.size:Int)))) wz rfl (ai ?_)))))))
   rcases ak hc_8 with⟨hc_12,hc_8⟩|⟨hc_12,hc_8⟩
   ·refine aA rfl hc_12 (au (af (aD (af (aa (ae (vS s_1) wz rfl (ae (vI s_7) wz rfl ?_)))))))
    obtain ⟨b_13,hy_14,hc_8⟩:=bind_some hc_8
    refine tJ un9 rfl rfl hy_14 wz (ae (.d (.int .u8 (b_13.toNat:Int))) wz rfl (ai (af ?_)))
    obtain ⟨v_15,h_16,hc_8⟩:=bind_some hc_8
    refine aG (β:=Unit) (λ_=>([(0,(vS s_1)),(3,(vI s_7)),(40,(vB v_15))]:SL_)) (λ_=>([]:Hp)) (λ_=>True) ?_ ?_
    ·refine aa (ae (.d (.int .u8 (b_13.toNat:Int))) wz rfl (ae (vB (decide ((b_13.toNat:Int)>=97))) wz rfl ?_))
     rcases ak h_16 with⟨hc_17,h_16⟩|⟨hc_17,h_16⟩
     ·refine aC rfl hc_17 wz (ae (.d (.int .u8 (b_13.toNat:Int))) wa rfl (ae (vB (decide ((b_13.toNat:Int)<=122))) wa rfl (ae (vB (decide ((b_13.toNat:Int)<=122))) wz rfl ?_)))
      rcases ak h_16 with⟨hc_18,h_16⟩|⟨hc_18,h_16⟩
      ·refine aC rfl hc_18 wz (aj wa (aj wa (aj wa (aj (wn rfl rfl) (aj (wn rfl rfl) (aj (wn rfl rfl) (aj (wn rfl rfl) (aj (wn rfl rfl) (aj (wn rfl rfl) (aj (wn rfl rfl) (aj (wn rfl rfl) (aj (wn rfl rfl) (aj (wn rfl rfl) (aj (wn rfl rfl) (aj (wn rfl rfl) (aj (wn rfl rfl) (aj (wn rfl rfl) (aj wa (ae (vB true) wz rfl (ae (vB false) wz rfl (ai ?_)))))))))))))))))))))
       obtain rfl:=ah h_16
       exact cu
      ·refine aC rfl hc_18 wz (ae (vI s_7) wa rfl (ae (vB (decide (s_7>0))) wa rfl ?_))
       rcases ak h_16 with⟨hc_19,h_16⟩|⟨hc_19,h_16⟩
       ·refine aC rfl hc_19 wa (ae (.d (.int .u8 (b_13.toNat:Int))) wa rfl (ae (vB (decide ((b_13.toNat:Int)>=48))) wa rfl ?_))
        rcases ak h_16 with⟨hc_20,h_16⟩|⟨hc_20,h_16⟩
        ·refine aC rfl hc_20 wa (ae (.d (.int .u8 (b_13.toNat:Int))) wa rfl (ae (vB (decide ((b_13.toNat:Int)<=57))) wa rfl (ae (vB (decide ((b_13.toNat:Int)<=57))) wa rfl ?_)))
         rcases ak h_16 with⟨hc_21,h_16⟩|⟨hc_21,h_16⟩
         ·refine aC rfl hc_21 wa (aj wa (aj wa (ae (vB true) wa rfl (ae (vB true) wa rfl (aj wa (aj wa (ae (vB true) wa rfl (ae (vB true) wa rfl (ae (vB true) wz rfl (ae (vB false) wz rfl (ai ?_)))))))))))
          obtain rfl:=ah h_16
          exact cu
         ·refine aC rfl hc_21 wa (ae (.d (.int .u8 (b_13.toNat:Int))) wa rfl (ae (vB ((b_13.toNat:Int)==45)) wa rfl (ae (vB ((b_13.toNat:Int)==45)) wa rfl ?_)))
          rcases ak h_16 with⟨hc_22,h_16⟩|⟨hc_22,h_16⟩
          ·refine aC rfl hc_22 wa (aj wa (aj wa (ae (vB true) wa rfl (ae (vB true) wa rfl (ae (vB true) wz rfl (ae (vB false) wz rfl (ai ?_)))))))
           obtain rfl:=ah h_16
           exact cu
          ·refine aC rfl hc_22 wa (ae (.d (.int .u8 (b_13.toNat:Int))) wa rfl (ae (vB ((b_13.toNat:Int)==95)) wa rfl (ae (vB ((b_13.toNat:Int)==95)) wa rfl (ae (vB ((b_13.toNat:Int)==95)) wa rfl (ae (vB ((b_13.toNat:Int)==95)) wz rfl (ae (vB (!((b_13.toNat:Int)==95))) wz rfl (ai ?_)))))))
           obtain rfl:=ah h_16
           exact cu
        ·refine aC rfl hc_20 wa (aj wa (aj wa (ae (vB false) wa rfl (ae (vB false) wa rfl (ae (.d (.int .u8 (b_13.toNat:Int))) wa rfl (ae (vB ((b_13.toNat:Int)==45)) wa rfl (ae (vB ((b_13.toNat:Int)==45)) wa rfl ?_)))))))
         rcases ak h_16 with⟨hc_23,h_16⟩|⟨hc_23,h_16⟩
         ·refine aC rfl hc_23 wa (aj wa (aj wa (ae (vB true) wa rfl (ae (vB true) wa rfl (ae (vB true) wz rfl (ae (vB false) wz rfl (ai ?_)))))))
          obtain rfl:=ah h_16
          exact cu
         ·refine aC rfl hc_23 wa (ae (.d (.int .u8 (b_13.toNat:Int))) wa rfl (ae (vB ((b_13.toNat:Int)==95)) wa rfl (ae (vB ((b_13.toNat:Int)==95)) wa rfl (ae (vB ((b_13.toNat:Int)==95)) wa rfl (ae (vB ((b_13.toNat:Int)==95)) wz rfl (ae (vB (!((b_13.toNat:Int)==95))) wz rfl (ai ?_)))))))
          obtain rfl:=ah h_16
          exact cu
       ·refine aC rfl hc_19 wa (aj wa (aj wa (aj wa (aj (wn rfl rfl) (aj (wn rfl rfl) (aj wa (aj wa (aj (wn rfl rfl) (aj (wn rfl rfl) (aj wa (aj wa (aj (wn rfl rfl) (aj (wn rfl rfl) (aj wa (ae (vB false) wa rfl (ae (vB false) wz rfl (ae (vB true) wz rfl (ai ?_))))))))))))))))))
        obtain rfl:=ah h_16
        exact cu
     ·refine aC rfl hc_17 wz (aj wa (aj wa (ae (vB false) wz rfl (ae (vB false) wz rfl (ae (vI s_7) wa rfl (ae (vB (decide (s_7>0))) wa rfl ?_))))))
      rcases ak h_16 with⟨hc_24,h_16⟩|⟨hc_24,h_16⟩
      ·refine aC rfl hc_24 wa (ae (.d (.int .u8 (b_13.toNat:Int))) wa rfl (ae (vB (decide ((b_13.toNat:Int)>=48))) wa rfl ?_))
       rcases ak h_16 with⟨hc_25,h_16⟩|⟨hc_25,h_16⟩
       ·refine aC rfl hc_25 wa (ae (.d (.int .u8 (b_13.toNat:Int))) wa rfl (ae (vB (decide ((b_13.toNat:Int)<=57))) wa rfl (ae (vB (decide ((b_13.toNat:Int)<=57))) wa rfl ?_)))
        rcases ak h_16 with⟨hc_26,h_16⟩|⟨hc_26,h_16⟩
        ·refine aC rfl hc_26 wa (aj wa (aj wa (ae (vB true) wa rfl (ae (vB true) wa rfl (aj wa (aj wa (ae (vB true) wa rfl (ae (vB true) wa rfl (ae (vB true) wz rfl (ae (vB false) wz rfl (ai ?_)))))))))))
         obtain rfl:=ah h_16
         exact cu
        ·refine aC rfl hc_26 wa (ae (.d (.int .u8 (b_13.toNat:Int))) wa rfl (ae (vB ((b_13.toNat:Int)==45)) wa rfl (ae (vB ((b_13.toNat:Int)==45)) wa rfl ?_)))
         rcases ak h_16 with⟨hc_27,h_16⟩|⟨hc_27,h_16⟩
         ·refine aC rfl hc_27 wa (aj wa (aj wa (ae (vB true) wa rfl (ae (vB true) wa rfl (ae (vB true) wz rfl (ae (vB false) wz rfl (ai ?_)))))))
          obtain rfl:=ah h_16
          exact cu
         ·refine aC rfl hc_27 wa (ae (.d (.int .u8 (b_13.toNat:Int))) wa rfl (ae (vB ((b_13.toNat:Int)==95)) wa rfl (ae (vB ((b_13.toNat:Int)==95)) wa rfl (ae (vB ((b_13.toNat:Int)==95)) wa rfl (ae (vB ((b_13.toNat:Int)==95)) wz rfl (ae (vB (!((b_13.toNat:Int)==95))) wz rfl (ai ?_)))))))
          obtain rfl:=ah h_16
          exact cu
       ·refine aC rfl hc_25 wa (aj wa (aj wa (ae (vB false) wa rfl (ae (vB false) wa rfl (ae (.d (.int .u8 (b_13.toNat:Int))) wa rfl (ae (vB ((b_13.toNat:Int)==45)) wa rfl (ae (vB ((b_13.toNat:Int)==45)) wa rfl ?_)))))))
        rcases ak h_16 with⟨hc_28,h_16⟩|⟨hc_28,h_16⟩
        ·refine aC rfl hc_28 wa (aj wa (aj wa (ae (vB true) wa rfl (ae (vB true) wa rfl (ae (vB true) wz rfl (ae (vB false) wz rfl (ai ?_)))))))
         obtain rfl:=ah h_16
         exact cu
        ·refine aC rfl hc_28 wa (ae (.d (.int .u8 (b_13.toNat:Int))) wa rfl (ae (vB ((b_13.toNat:Int)==95)) wa rfl (ae (vB ((b_13.toNat:Int)==95)) wa rfl (ae (vB ((b_13.toNat:Int)==95)) wa rfl (ae (vB ((b_13.toNat:Int)==95)) wz rfl (ae (vB (!((b_13.toNat:Int)==95))) wz rfl (ai ?_)))))))
         obtain rfl:=ah h_16
         exact cu
      ·refine aC rfl hc_24 wa (aj wa (aj wa (aj wa (aj (wn rfl rfl) (aj (wn rfl rfl) (aj wa (aj wa (aj (wn rfl rfl) (aj (wn rfl rfl) (aj wa (aj wa (aj (wn rfl rfl) (aj (wn rfl rfl) (aj wa (ae (vB false) wa rfl (ae (vB false) wz rfl (ae (vB true) wz rfl (ai ?_))))))))))))))))))
       obtain rfl:=ah h_16
       exact cu
    ·rintro ⟨⟩ _ sl_ H_ hp_ hq_
     refine aN _ hp_ hq_ ?_
     rcases ak hc_8 with⟨hc_29,hc_8⟩|⟨hc_29,hc_8⟩
     ·refine aA rfl hc_29 (af (aa (ae (vB false) wz rfl (ai ?_))))
      obtain rfl:=ah hc_8
      obtain rfl:=ah hL_9
      obtain rfl:=ah hF
      exact ax (aR (.inr rfl) [(vB false)] ⟨rfl,trivial⟩ rfl rfl rfl)
     ·refine ay rfl hc_29 (au (aa (ae (vI s_7) wz rfl (ae (vI (w64 (s_7+1))) wz rfl (ae (vI (w64 (s_7+1))) wz rfl (ai ?_))))))
      obtain rfl:=ah hc_8
      exact aV (k_2,(w64 (s_7+1))) hL_9 (ls_ _) rfl (aJ rfl)
   ·refine ay rfl hc_12 (aW ?_)
    obtain rfl:=ah hc_8
    obtain rfl:=ah hL_9
    exact aZ (s_7) rfl rfl (aJ rfl)
 ·rintro s_7 ho_ sl_ H_ hp_ hq_
  subst ho_
  refine aN _ hp_ hq_ (af ?_)
  obtain ⟨v_30,h_31,hF⟩:=bind_some hF
  refine aG (β:=Unit) (λ_=>([(2,(vB v_30))]:SL_)) (λ_=>([]:Hp)) (λ_=>True) ?_ ?_
  ·refine aa (ae (vS s_1) wz rfl (ae (vB (sNe s_1 (⟨#[]⟩:ByteArray))) wz rfl ?_))
   rcases ak h_31 with⟨hc_32,h_31⟩|⟨hc_32,h_31⟩
   ·refine aC rfl hc_32 wz (ae (vS s_1) wa rfl (qC un9 rfl wa (ae (vB (decide ((s_1.size:Int)<=40))) wa rfl (ae (vB (decide ((s_1.size:Int)<=40))) wz rfl (ae (vB (decide ((s_1.size:Int)<=40))) wz rfl (ai ?_))))))
    obtain rfl:=ah h_31
    exact cu
   ·refine aC rfl hc_32 wz (aj wa (aj wa (aj wa (ae (vB false) wz rfl (ae (vB false) wz rfl (ai ?_))))))
    obtain rfl:=ah h_31
    exact cu
  ·rintro ⟨⟩ _ sl_ H_ hp_ hq_
   refine aN _ hp_ hq_ ?_
   obtain rfl:=ah hF
   exact ax (aR (.inr rfl) [(vB v_30)] ⟨rfl,trivial⟩ rfl rfl rfl)
theorem kZ {n_1:Int} {r:Bool} (hF:gY n_1=some r) :
  FnM Tryz.prog 101 [(vI n_1)] [] (vB r) []:=by
 refine FnM.of_wH ⟨Tryz.prog,9,[],[]⟩ rfl Tryz.func101 rfl rfl (lb_ rfl) (by kernel_rfl) ?_
 unfold gY at hF
 refine af (aa (ae (vB false) wz rfl (ai (af ?_))))
 obtain ⟨v_2,h_3,hF⟩:=bind_some hF
 refine aG (β:=Unit) (λ_=>([(2,(vB v_2))]:SL_)) (λ_=>([]:Hp)) (λ_=>True) ?_ ?_
 ·refine aa (ae (vI n_1) wz rfl (ae (vB (decide (n_1>=0))) wz rfl ?_))
  rcases ak h_3 with⟨hc_4,h_3⟩|⟨hc_4,h_3⟩
  ·refine aC rfl hc_4 wz (ae (vI n_1) wa rfl (ae (vB (decide (n_1<345686400000))) wa rfl (ae (vB (decide (n_1<345686400000))) wz rfl (ae (vB (decide (n_1<345686400000))) wz rfl (ai ?_)))))
   obtain rfl:=ah h_3
   exact cu
  ·refine aC rfl hc_4 wz (aj wa (aj wa (ae (vB false) wz rfl (ae (vB false) wz rfl (ai ?_)))))
   obtain rfl:=ah h_3
   exact cu
 ·rintro ⟨⟩ _ sl_ H_ hp_ hq_
  refine aN _ hp_ hq_ ?_
  obtain rfl:=ah hF
  exact ax (aR (.inr rfl) [(vB v_2)] ⟨rfl,trivial⟩ rfl rfl rfl)
section
variable [dM:DM]
theorem nY {a_1:ByteArray} {b_2:ByteArray} {r:Int} (hF:iI a_1 b_2=some r) :
  FnM Tryz.prog 181 [(vS a_1),(vS b_2)] [] (vI r) []:=by
 refine FnM.of_wH ⟨Tryz.prog,8,[],[]⟩ rfl Tryz.func181 rfl rfl (lb_ rfl) (by kernel_rfl) ?_
 unfold iI at hF
 refine af (aa (ae (vI 0) wz rfl (ai (af (aa (ae (vS a_1) wz rfl (ae (vS b_2) wz rfl (h_ext (LD (f:=248) Tryz.func248 rfl rfl (by kernel_rfl) (by kernel_rfl) _ _) rfl nb248 rfl wz (ae (vI (ko a_1 b_2)) wz rfl (ai ?_))))))))))
 obtain rfl:=ah hF
 exact ax (aR (.inr rfl) [(vI (ko a_1 b_2))] ⟨rfl,trivial⟩ rfl rfl rfl)
end
section
variable [dM:DM]
theorem iG {a_1:ByteArray} {b_2:ByteArray} {r:Int} (hF:strings_Compare a_1 b_2=some r) :
  FnM Tryz.prog 108 [(vS a_1),(vS b_2)] [] (vI r) []:=by
 refine FnM.of_wH ⟨Tryz.prog,8,[],[]⟩ rfl Tryz.func108 rfl rfl (lb_ rfl) (by kernel_rfl) ?_
 unfold strings_Compare at hF
 refine af (aa (ae (vI 0) wz rfl (ai (af (aa (ae (vS a_1) wz rfl (ae (vS b_2) wz rfl ?_)))))))
 obtain ⟨r_3,hr_4,hF⟩:=bind_some hF
 refine aB (nY hr_4) rfl hb181 rfl rfl rfl rfl wz (ae (vI r_3) wz rfl (ai ?_))
 obtain rfl:=ah hF
 exact ax (aR (.inr rfl) [(vI r_3)] ⟨rfl,trivial⟩ rfl rfl rfl)
end
section
variable [dM:DM]
theorem mQ {b_1:Bool} {r:Int} (hF:gM b_1=some r) :
  FnM Tryz.prog 121 [(vB b_1)] [] (vI r) []:=by
 refine FnM.of_wH ⟨Tryz.prog,4,[],[]⟩ rfl Tryz.func121 rfl rfl (lb_ rfl) (by kernel_rfl) ?_
 unfold gM at hF
 refine af (aa (ae (vI 0) wz rfl (ai (af (af (aa (ae (vB b_1) wz rfl (ai ?_))))))))
 rcases ak hF with⟨hc_2,hF⟩|⟨hc_2,hF⟩
 ·refine aA rfl hc_2 (af (aa (ae (vI 1) wz rfl (ai ?_))))
  obtain rfl:=ah hF
  exact ax (aR (.inr rfl) [(vI 1)] ⟨rfl,trivial⟩ rfl rfl rfl)
 ·refine ay rfl hc_2 (au (af (aa (ae (vI 0) wz rfl (ai ?_)))))
  obtain rfl:=ah hF
  exact ax (aR (.inr rfl) [(vI 0)] ⟨rfl,trivial⟩ rfl rfl rfl)
end
section
variable [dM:DM]
theorem uK {x_1:Int} {r:Bool} (hF:cmp_isNaN_int x_1=some r) :
  FnM Tryz.prog 186 [(vI x_1)] [] (vB r) []:=by
 refine FnM.of_wH ⟨Tryz.prog,6,[],[]⟩ rfl Tryz.func186 rfl rfl (lb_ rfl) (by kernel_rfl) ?_
 unfold cmp_isNaN_int at hF
 refine af (aa (ae (vB false) wz rfl (ai (af (aa (ae (vI x_1) wz rfl (ae (vI x_1) wz rfl (ae (vB (x_1 != x_1)) wz rfl (ae (vB (x_1 != x_1)) wz rfl (ai ?_))))))))))
 obtain rfl:=ah hF
 exact ax (aR (.inr rfl) [(vB (x_1 != x_1))] ⟨rfl,trivial⟩ rfl rfl rfl)
end
section
variable [dM:DM]
theorem nC {x_1:Int} {y_2:Int} {r:Int} (hF:cmp_Compare_int x_1 y_2=some r) :
  FnM Tryz.prog 114 [(vI x_1),(vI y_2)] [] (vI r) []:=by
 refine FnM.of_wH ⟨Tryz.prog,20,[],[]⟩ rfl Tryz.func114 rfl rfl (lb_ rfl) (by kernel_rfl) ?_
 unfold cmp_Compare_int at hF
 refine af (aa (ae (vI 0) wz rfl (ai (af (aa (ae (vI x_1) wz rfl ?_))))))
 obtain ⟨r_3,hr_4,hF⟩:=bind_some hF
 refine aB (uK hr_4) rfl hb186 rfl rfl rfl rfl wz (ae (vB r_3) wz rfl (ai (af (aa (ae (vI y_2) wz rfl ?_)))))
 obtain ⟨r_5,hr_6,hF⟩:=bind_some hF
 refine aB (uK hr_6) rfl hb186 rfl rfl rfl rfl wz (ae (vB r_5) wz rfl (ai (af (af (aa (ae (vB r_3) wz rfl (ai ?_)))))))
 rcases ak hF with⟨hc_7,hF⟩|⟨hc_7,hF⟩
 ·refine aA rfl hc_7 (af (af (aa (ae (vB r_5) wz rfl (ai ?_)))))
  rcases ak hF with⟨hc_8,hF⟩|⟨hc_8,hF⟩
  ·refine aA rfl hc_8 (af (aa (ae (vI 0) wz rfl (ai ?_))))
   obtain rfl:=ah hF
   exact ax (aR (.inr rfl) [(vI 0)] ⟨rfl,trivial⟩ rfl rfl rfl)
  ·refine ay rfl hc_8 (au (af (aa (ae (vI (-1)) wz rfl (ai ?_)))))
   obtain rfl:=ah hF
   exact ax (aR (.inr rfl) [(vI (-1))] ⟨rfl,trivial⟩ rfl rfl rfl)
 ·refine ay rfl hc_7 (au (af (af (aa (ae (vB r_5) wz rfl (ai ?_))))))
  rcases ak hF with⟨hc_9,hF⟩|⟨hc_9,hF⟩
  ·refine aA rfl hc_9 (af (aa (ae (vI 1) wz rfl (ai ?_))))
   obtain rfl:=ah hF
   exact ax (aR (.inr rfl) [(vI 1)] ⟨rfl,trivial⟩ rfl rfl rfl)
  ·refine ay rfl hc_9 (au (af (af (aa (ae (vI x_1) wz rfl (ae (vI y_2) wz rfl (ae (vB (decide (x_1<y_2))) wz rfl (ai ?_))))))))
   rcases ak hF with⟨hc_10,hF⟩|⟨hc_10,hF⟩
   ·refine aA rfl hc_10 (af (aa (ae (vI (-1)) wz rfl (ai ?_))))
    obtain rfl:=ah hF
    exact ax (aR (.inr rfl) [(vI (-1))] ⟨rfl,trivial⟩ rfl rfl rfl)
   ·refine ay rfl hc_10 (au (af (af (aa (ae (vI x_1) wz rfl (ae (vI y_2) wz rfl (ae (vB (decide (x_1>y_2))) wz rfl (ai ?_))))))))
    rcases ak hF with⟨hc_11,hF⟩|⟨hc_11,hF⟩
    ·refine aA rfl hc_11 (af (aa (ae (vI 1) wz rfl (ai ?_))))
     obtain rfl:=ah hF
     exact ax (aR (.inr rfl) [(vI 1)] ⟨rfl,trivial⟩ rfl rfl rfl)
    ·refine ay rfl hc_11 (au (af (aa (ae (vI 0) wz rfl (ai ?_)))))
     obtain rfl:=ah hF
     exact ax (aR (.inr rfl) [(vI 0)] ⟨rfl,trivial⟩ rfl rfl rfl)
end
end Go.Proofs.YtjhcehhmdmbleaaGreatDoor.Law

