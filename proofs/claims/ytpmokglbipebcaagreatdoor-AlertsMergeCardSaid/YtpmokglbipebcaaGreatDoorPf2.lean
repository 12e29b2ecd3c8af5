/-
 The machine computes these plain functions (written by a program of ours).
-/
import Derived.Test.YtpmokglbipebcaaGreatDoorFacts
import Derived.Test.YtpmokglbipebcaaGreatDoorDefs
import Derived.Test.YtpmokglbipebcaaGreatDoorPf1
import Derived.Test.YtpmokglbipebcaaGreatDoorShelf
open Go Go.Eng Go.Proofs
namespace Go.Proofs.YtpmokglbipebcaaGreatDoor.Law
set_option maxRecDepth 100000
set_option linter.unusedVariables false
set_option maxHeartbeats 1000000
theorem uO {s_1:Stream} {r:Rect×Stream} (hF:jS s_1=some r) :
  FnM Tryz.prog 72 [(.ref (au 0) 0 0)] [(.cells 2 [(vL eI s_1.L),(vI s_1.f_at)])] (.d (.agg (Rect.enc r.1))) [some (.cells 2 [(vL eI r.2.L),(vI r.2.f_at)])]:=by
 refine FnM.of_wH ⟨Tryz.prog,32,[],[]⟩ rfl Tryz.func72 rfl rfl (lb_ rfl) (by kernel_rfl) ?_
 unfold jS at hF
 refine af (aa (fP 0 (.inl rfl) z77 rfl wz (λn_2=>aj (af (aa (ae (.ref (au 0) 0 0) wz rfl ?_))))))
 obtain ⟨r_3,hr_4,hF⟩:=bind_some hF
 refine aW 0 [0] il ft (iZ hr_4) rfl hb65 rfl (by kernel_rfl) (by kernel_rfl) (by kernel_rfl) (by kernel_rfl) (by kernel_rfl) (by kernel_rfl) (by kernel_rfl) (by decide) (by kernel_rfl) wz (.d (.agg (Rect.enc r_3.1))) (by kernel_rfl) ([((au 0),some (.cells 2 [(vL eI r_3.2.L),(vI r_3.2.f_at)])),(n_2,some (.cells 4 [(vI 0),(vI 0),(vI 0),(vI 0)]))]:Hp) (by kernel_rfl) (fP 0 (.inl rfl) z77 rfl wz (λn_6=>fU 0 il ft 2 nW rfl rfl [(vI r_3.1.X),(vI r_3.1.Y),(vI r_3.1.W),(vI r_3.1.H)] rfl wz (aj (af (af (aa (ae (.ref (au 0) 0 0) wz rfl ?_)))))))
 obtain ⟨r_7,hr_8,hF⟩:=bind_some hF
 refine aW 0 [0] il ft (fu hr_8) rfl hb7 rfl (by kernel_rfl) (by kernel_rfl) (by kernel_rfl) (by kernel_rfl) (by kernel_rfl) (by kernel_rfl) (by kernel_rfl) (by decide) (by kernel_rfl) wz (vB r_7.1) (by kernel_rfl) ([((au 0),some (.cells 2 [(vL eI r_7.2.L),(vI r_7.2.f_at)])),(n_2,some (.cells 4 [(vI 0),(vI 0),(vI 0),(vI 0)])),(n_6,some (.cells 4 [(vI r_3.1.X),(vI r_3.1.Y),(vI r_3.1.W),(vI r_3.1.H)]))]:Hp) (by kernel_rfl) (aj ?_)
 obtain ⟨v_10,h_11,hF⟩:=bind_some hF
 refine aI (β:=Unit) (λ_=>([(2,(.ref n_2 0 0)),(3,(.ref n_6 0 0))]:SL_)) (λ_=>([((au 0),some (.cells 2 [(vL eI v_10.1),(vI v_10.2.1)])),(n_2,some (.cells 4 [(vI 0),(vI 0),(vI 0),(vI 0)])),(n_6,some (.cells 4 [(vI v_10.2.2.1),(vI v_10.2.2.2.1),(vI v_10.2.2.2.2.1),(vI v_10.2.2.2.2.2)]))]:Hp)) (λ_=>True) ?_ ?_
 ·rcases ak h_11 with⟨hc_12,h_11⟩|⟨hc_12,h_11⟩
  ·refine aA rfl hc_12 (af (aa (ae (.ref (au 0) 0 0) wz rfl ?_)))
   obtain ⟨r_13,hr_14,h_11⟩:=bind_some h_11
   refine aW 0 [0] il ft (dL hr_14) rfl hb9 rfl (by kernel_rfl) (by kernel_rfl) (by kernel_rfl) (by kernel_rfl) (by kernel_rfl) (by kernel_rfl) (by kernel_rfl) (by decide) (by kernel_rfl) wz (vI r_13.1) (by kernel_rfl) ([((au 0),some (.cells 2 [(vL eI r_13.2.L),(vI r_13.2.f_at)])),(n_2,some (.cells 4 [(vI 0),(vI 0),(vI 0),(vI 0)])),(n_6,some (.cells 4 [(vI r_3.1.X),(vI r_3.1.Y),(vI r_3.1.W),(vI r_3.1.H)]))]:Hp) (by kernel_rfl) (aj (aB (af (aa (ae (vB (r_13.1==0)) wz rfl (ae (vB (r_13.1==0)) wz rfl (aj ?_)))))))
   rcases ak h_11 with⟨hc_16,h_11⟩|⟨hc_16,h_11⟩
   ·refine aA rfl hc_16 (aa (ae (.ref (au 0) 0 0) wz rfl ?_))
    obtain ⟨r_17,hr_18,h_11⟩:=bind_some h_11
    refine aW 0 [0] il ft (fI hr_18) rfl Es rfl (by kernel_rfl) (by kernel_rfl) (by kernel_rfl) (by kernel_rfl) (by kernel_rfl) (by kernel_rfl) (by kernel_rfl) (by decide) (by kernel_rfl) wz (vI r_17.1) (by kernel_rfl) ([((au 0),some (.cells 2 [(vL eI r_17.2.L),(vI r_17.2.f_at)])),(n_2,some (.cells 4 [(vI 0),(vI 0),(vI 0),(vI 0)])),(n_6,some (.cells 4 [(vI r_3.1.X),(vI r_3.1.Y),(vI r_3.1.W),(vI r_3.1.H)]))]:Hp) (by kernel_rfl) (aF rR rfl 0 rfl wz (fU 0 il ft 2 sz3 rfl rfl [(vI r_17.1),(vI r_3.1.Y),(vI r_3.1.W),(vI r_3.1.H)] rfl wz (aj ?_)))
    obtain rfl:=ah h_11
    exact cu
   ·refine ax rfl hc_16 (af (aa (ae (vB (r_13.1==1)) wz rfl (ae (vB (r_13.1==1)) wz rfl (aj ?_)))))
    rcases ak h_11 with⟨hc_20,h_11⟩|⟨hc_20,h_11⟩
    ·refine aA rfl hc_20 (aa (ae (.ref (au 0) 0 0) wz rfl ?_))
     obtain ⟨r_21,hr_22,h_11⟩:=bind_some h_11
     refine aW 0 [0] il ft (fI hr_22) rfl Es rfl (by kernel_rfl) (by kernel_rfl) (by kernel_rfl) (by kernel_rfl) (by kernel_rfl) (by kernel_rfl) (by kernel_rfl) (by decide) (by kernel_rfl) wz (vI r_21.1) (by kernel_rfl) ([((au 0),some (.cells 2 [(vL eI r_21.2.L),(vI r_21.2.f_at)])),(n_2,some (.cells 4 [(vI 0),(vI 0),(vI 0),(vI 0)])),(n_6,some (.cells 4 [(vI r_3.1.X),(vI r_3.1.Y),(vI r_3.1.W),(vI r_3.1.H)]))]:Hp) (by kernel_rfl) (ae (.ref (au 0) 0 0) wz rfl ?_)
     obtain ⟨r_24,hr_25,h_11⟩:=bind_some h_11
     refine aW 0 [0] il ft (fI hr_25) rfl Es rfl (by kernel_rfl) (by kernel_rfl) (by kernel_rfl) (by kernel_rfl) (by kernel_rfl) (by kernel_rfl) (by kernel_rfl) (by decide) (by kernel_rfl) wz (vI r_24.1) (by kernel_rfl) ([((au 0),some (.cells 2 [(vL eI r_24.2.L),(vI r_24.2.f_at)])),(n_2,some (.cells 4 [(vI 0),(vI 0),(vI 0),(vI 0)])),(n_6,some (.cells 4 [(vI r_3.1.X),(vI r_3.1.Y),(vI r_3.1.W),(vI r_3.1.H)]))]:Hp) (by kernel_rfl) (aF yY rfl 2 rfl wz (fU 0 il ft 2 sz3 rfl rfl [(vI r_3.1.X),(vI r_3.1.Y),(vI r_21.1),(vI r_3.1.H)] rfl wz (aF wo rfl 3 rfl wz (fU 0 il ft 2 sz3 rfl rfl [(vI r_3.1.X),(vI r_3.1.Y),(vI r_21.1),(vI r_24.1)] rfl wz (aj ?_)))))
     obtain rfl:=ah h_11
     exact cu
    ·refine ax rfl hc_20 (aa (ae (.ref (au 0) 0 0) wz rfl (fB (([(-100000),99999]:List Int).map eI) wM BA rfl rfl rfl rfl rfl wz ?_)))
     obtain ⟨r_27,hr_28,h_11⟩:=bind_some h_11
     refine aW 0 [0] il ft (fV hr_28) rfl GD rfl (by kernel_rfl) (by kernel_rfl) (by kernel_rfl) (by kernel_rfl) (by kernel_rfl) (by kernel_rfl) (by kernel_rfl) (by decide) (by kernel_rfl) wz (vI r_27.1) (by kernel_rfl) ([((au 0),some (.cells 2 [(vL eI r_27.2.L),(vI r_27.2.f_at)])),(n_2,some (.cells 4 [(vI 0),(vI 0),(vI 0),(vI 0)])),(n_6,some (.cells 4 [(vI r_3.1.X),(vI r_3.1.Y),(vI r_3.1.W),(vI r_3.1.H)]))]:Hp) (by kernel_rfl) (ae (.ref (au 0) 0 0) wz rfl (fB (([1,2,200000]:List Int).map eI) wM BA rfl rfl rfl rfl rfl wz ?_))
     obtain ⟨r_30,hr_31,h_11⟩:=bind_some h_11
     refine aW 0 [0] il ft (fV hr_31) rfl GD rfl (by kernel_rfl) (by kernel_rfl) (by kernel_rfl) (by kernel_rfl) (by kernel_rfl) (by kernel_rfl) (by kernel_rfl) (by decide) (by kernel_rfl) wz (vI r_30.1) (by kernel_rfl) ([((au 0),some (.cells 2 [(vL eI r_30.2.L),(vI r_30.2.f_at)])),(n_2,some (.cells 4 [(vI 0),(vI 0),(vI 0),(vI 0)])),(n_6,some (.cells 4 [(vI r_3.1.X),(vI r_3.1.Y),(vI r_3.1.W),(vI r_3.1.H)]))]:Hp) (by kernel_rfl) (aF rC rfl 1 rfl wz (fU 0 il ft 2 sz3 rfl rfl [(vI r_3.1.X),(vI r_27.1),(vI r_3.1.W),(vI r_3.1.H)] rfl wz (aF wo rfl 3 rfl wz (fU 0 il ft 2 sz3 rfl rfl [(vI r_3.1.X),(vI r_27.1),(vI r_3.1.W),(vI r_30.1)] rfl wz (aj ?_)))))
     obtain rfl:=ah h_11
     exact cu
  ·refine ax rfl hc_12 (av ?_)
   obtain rfl:=ah h_11
   exact cu
 ·rintro ⟨⟩ _ sl_ H_ hp_ hq_
  refine aV _ hp_ hq_ (af (aa (aD 0 2 il ft nW xM rfl rfl (.d (.agg (Rect.enc (⟨v_10.2.2.1,v_10.2.2.2.1,v_10.2.2.2.2.1,v_10.2.2.2.2.2⟩:Rect)))) rfl wz (fU 0 il ft 1 nW rfl rfl [(vI v_10.2.2.1),(vI v_10.2.2.2.1),(vI v_10.2.2.2.2.1),(vI v_10.2.2.2.2.2)] rfl wz (aj ?_)))))
  obtain rfl:=ah hF
  exact ay (uj (.inr rfl) [(.d (.agg (Rect.enc (⟨v_10.2.2.1,v_10.2.2.2.1,v_10.2.2.2.2.1,v_10.2.2.2.2.2⟩:Rect))))] _ [0] [au 0] ⟨⟨1,_,_,_,_,_,_,_,rfl,rfl,nW,xM,rfl⟩,trivial⟩ (.cons (iq rfl rfl) (.nil)) (by kernel_rfl) ⟨(by kernel_rfl),trivial⟩ (by decide) (by kernel_rfl))
theorem uF {s_1:Stream} {most_2:Int} {r:(List Rect)×Stream} (hF:jg s_1 most_2=some r) :
  FnM Tryz.prog 38 [(.ref (au 0) 0 0),(vI most_2)] [(.cells 2 [(vL eI s_1.L),(vI s_1.f_at)])] (vL Rect.enc r.1) [some (.cells 2 [(vL eI r.2.L),(vI r.2.f_at)])]:=by
 refine FnM.of_wH ⟨Tryz.prog,24,[],[]⟩ rfl Tryz.func38 rfl rfl (lb_ rfl) (by kernel_rfl) ?_
 unfold jg at hF
 refine af (aa (ae .nil wz rfl (aj (af (aa (ae .nil wz rfl (aj (af (af (aa (ae (.ref (au 0) 0 0) wz rfl (ae (vI most_2) wz rfl ?_))))))))))))
 obtain ⟨r_3,hr_4,hF⟩:=bind_some hF
 refine aW 0 [0] il ft (bS hr_4) rfl zJ rfl (by kernel_rfl) (by kernel_rfl) (by kernel_rfl) (by kernel_rfl) (by kernel_rfl) (by kernel_rfl) (by kernel_rfl) (by decide) (by kernel_rfl) wz (vI r_3.1) (by kernel_rfl) ([((au 0),some (.cells 2 [(vL eI r_3.2.L),(vI r_3.2.f_at)]))]:Hp) (by kernel_rfl) (ae (vI 0) wz rfl (aj (uf (λn_12 => ?_))))
 obtain ⟨o_17,hj_18,hF⟩:=bind_some hF
 obtain ⟨hn_10,hj_18⟩:=bv hj_18
 refine aI (β:=((List Rect)×(List Int)×Int)×Nm) (λp=>(λ(s_11:(List Rect)×(List Int)×Int) (n_14:Nm)=>([(5,(gV n_14 4 s_11.1))]:SL_)) p.1 p.2) (λp=>(λ(s_11:(List Rect)×(List Int)×Int) (n_14:Nm)=>([((au 0),some (.cells 2 [(vL eI s_11.2.1),(vI s_11.2.2)])),(n_14,gB 4 Rect.enc s_11.1)]:Hp)) p.1 p.2) (λp=>o_17 = .go p.1) ?_ ?_
 ·refine aB (bn (β:=Nat×(List Nat)×((List Rect)×(List Int)×Int)×Nm) (λp=>(λ(k_6:Nat) (l_7:List Nat) (s_11:(List Rect)×(List Int)×Int) (n_14:Nm)=>([(0,(.ref (au 0) 0 0)),(5,(gV n_14 4 s_11.1)),(9,(vI r_3.1)),(10,(vI (k_6:Int)))]:SL_)) p.1 p.2.1 p.2.2.1 p.2.2.2) (λp=>(λ(k_6:Nat) (l_7:List Nat) (s_11:(List Rect)×(List Int)×Int) (n_14:Nm)=>([((au 0),some (.cells 2 [(vL eI s_11.2.1),(vI s_11.2.2)])),(n_14,gB 4 Rect.enc s_11.1)]:Hp)) p.1 p.2.1 p.2.2.1 p.2.2.2) (λp=>forR (λk x s=>gU k x s) p.2.1 p.1 p.2.2.1=some o_17/\((List.range (r_3.1).toNat)).drop p.1=p.2.1) (λp=>p.2.1.length) (0,(List.range (r_3.1).toNat),(([]:List Rect),r_3.2.L,r_3.2.f_at),n_12) ⟨hj_18,rfl⟩ rfl (aK rfl) ?_)
  rintro ⟨k_6,l_7,s_11,n_14⟩ ⟨hL_16,hD_9⟩
  dsimp only at hL_16 hD_9
  cases l_7 with
  | nil =>
   obtain rfl:=ah hL_16
   refine af (aa (ae (vB (decide ((k_6:Int)<r_3.1))) wz rfl (aj ?_)))
   refine af (ax rfl (qo hD_9) (bE ?_))
   exact bN (s_11,n_14) rfl rfl (aK rfl)
  | cons x_8 l_7 =>
   obtain ⟨c_,hc_15,hL_16⟩:=bind_some hL_16
   refine af (aa (ae (vB (decide ((k_6:Int)<r_3.1))) wz rfl (aj ?_)))
   refine af (aA rfl (og hD_9) (av ?_))
   unfold gU at hc_15
   refine af (aB (af (aa (ae (.ref (au 0) 0 0) wz rfl ?_))))
   obtain ⟨r_19,hr_20,hc_15⟩:=bind_some hc_15
   refine aW 0 [0] il ft (iZ hr_20) rfl hb65 rfl (by kernel_rfl) (by kernel_rfl) (by kernel_rfl) (by kernel_rfl) (by kernel_rfl) (by kernel_rfl) (by kernel_rfl) (by decide) (by kernel_rfl) wz (.d (.agg (Rect.enc r_19.1))) (by kernel_rfl) ([((au 0),some (.cells 2 [(vL eI r_19.2.L),(vI r_19.2.f_at)])),(n_14,gB 4 Rect.enc s_11.1)]:Hp) (by kernel_rfl) (fP 0 (.inl rfl) z77 rfl wz (λn_22=>fU 0 il ft 2 nW rfl rfl [(vI r_19.1.X),(vI r_19.1.Y),(vI r_19.1.W),(vI r_19.1.H)] rfl wz (aj (af (af (aa (ae (.ref (au 0) 0 0) wz rfl ?_)))))))
   obtain ⟨r_23,hr_24,hc_15⟩:=bind_some hc_15
   refine aW 0 [0] il ft (fu hr_24) rfl hb7 rfl (by kernel_rfl) (by kernel_rfl) (by kernel_rfl) (by kernel_rfl) (by kernel_rfl) (by kernel_rfl) (by kernel_rfl) (by decide) (by kernel_rfl) wz (vB r_23.1) (by kernel_rfl) ([((au 0),some (.cells 2 [(vL eI r_23.2.L),(vI r_23.2.f_at)])),(n_14,gB 4 Rect.enc s_11.1),(n_22,some (.cells 4 [(vI r_19.1.X),(vI r_19.1.Y),(vI r_19.1.W),(vI r_19.1.H)]))]:Hp) (by kernel_rfl) (aj ?_)
   obtain ⟨v_26,h_27,hc_15⟩:=bind_some hc_15
   refine aI (β:=Unit) (λ_=>([(0,(.ref (au 0) 0 0)),(5,(gV n_14 4 s_11.1)),(6,(.ref n_22 0 0)),(9,(vI r_3.1)),(10,(vI (k_6:Int)))]:SL_)) (λ_=>([((au 0),some (.cells 2 [(vL eI v_26.1),(vI v_26.2.1)])),(n_14,gB 4 Rect.enc s_11.1),(n_22,some (.cells 4 [(vI v_26.2.2.1),(vI v_26.2.2.2.1),(vI v_26.2.2.2.2.1),(vI v_26.2.2.2.2.2)]))]:Hp)) (λ_=>True) ?_ ?_
   ·rcases ak h_27 with⟨hc_28,h_27⟩|⟨hc_28,h_27⟩
    ·refine aA rfl hc_28 (aa (ae (.ref (au 0) 0 0) wz rfl ?_))
     obtain ⟨r_29,hr_30,h_27⟩:=bind_some h_27
     refine aW 0 [0] il ft (uO hr_30) rfl hb72 rfl (by kernel_rfl) (by kernel_rfl) (by kernel_rfl) (by kernel_rfl) (by kernel_rfl) (by kernel_rfl) (by kernel_rfl) (by decide) (by kernel_rfl) wz (.d (.agg (Rect.enc r_29.1))) (by kernel_rfl) ([((au 0),some (.cells 2 [(vL eI r_29.2.L),(vI r_29.2.f_at)])),(n_14,gB 4 Rect.enc s_11.1),(n_22,some (.cells 4 [(vI r_19.1.X),(vI r_19.1.Y),(vI r_19.1.W),(vI r_19.1.H)]))]:Hp) (by kernel_rfl) (fU 0 il ft 2 nW rfl rfl [(vI r_29.1.X),(vI r_29.1.Y),(vI r_29.1.W),(vI r_29.1.H)] rfl wz (aj ?_))
     obtain rfl:=ah h_27
     exact cu
    ·refine ax rfl hc_28 (av ?_)
     obtain rfl:=ah h_27
     exact cu
   ·rintro ⟨⟩ _ sl_ H_ hp_ hq_
    refine aV _ hp_ hq_ (aa (ae (gV n_14 4 s_11.1) wz rfl (aD 0 2 il ft nW xM rfl rfl (.d (.agg (Rect.enc (⟨v_26.2.2.1,v_26.2.2.2.1,v_26.2.2.2.2.1,v_26.2.2.2.2.2⟩:Rect)))) rfl wz (fB (([(⟨v_26.2.2.1,v_26.2.2.2.1,v_26.2.2.2.2.1,v_26.2.2.2.2.2⟩:Rect)]:List Rect).map Rect.enc) zX ez31 rfl rfl rfl rfl rfl wz ?_))))
    obtain ⟨a_32,hz_33,hc_15⟩:=bind_some hc_15
    refine rQ 0 il ft (i:=1) Hr Hr nW z77 rfl (by decide) by77 (by decide) (λ_=>rfl) rfl rfl rfl hz_33 wz (λn_34=>ae (gV n_34 4 a_32) wz rfl (aj (aa (gN (qd hD_9 hn_10) wz rfl (ae (vI ((k_6+1:Nat):Int)) wz rfl (aj ?_))))))
    obtain rfl:=ah hc_15
    exact bC (k_6+1,l_7,(a_32,v_26.1,v_26.2.1),n_34) ⟨hL_16,aY hD_9⟩ (ls_ _) rfl (aK rfl)
 ·rintro ⟨s_11,n_14⟩ ho_ sl_ H_ hp_ hq_
  subst ho_
  refine aV _ hp_ hq_ (af (aa (ae (gV n_14 4 s_11.1) wz rfl (ae (gV n_14 4 s_11.1) wz rfl (aj (jq 1 rfl (fC 4 1 rfl rfl (fC 5 1 rfl rfl (fC 23 1 rfl rfl ?_)))))))))
  obtain rfl:=ah hF
  exact ay (uj (.inr rfl) [(vL Rect.enc s_11.1)] _ [0] [au 0] ⟨rfl,trivial⟩ (.cons (iq rfl rfl) (.nil)) (by kernel_rfl) ⟨(by kernel_rfl),trivial⟩ (by decide) (by kernel_rfl))
theorem nK {s_1:Stream} {most_2:Int} {r:(List Alert)×Stream} (hF:gQ s_1 most_2=some r) :
  FnM Tryz.prog 6 [(.ref (au 0) 0 0),(vI most_2)] [(.cells 2 [(vL eI s_1.L),(vI s_1.f_at)])] (vL Alert.enc r.1) [some (.cells 2 [(vL eI r.2.L),(vI r.2.f_at)])]:=by
 refine FnM.of_wH ⟨Tryz.prog,99,[],[]⟩ rfl Tryz.func6 rfl rfl (lb_ rfl) (by kernel_rfl) ?_
 unfold gQ at hF
 refine af (aa (ae .nil wz rfl (aj (af (aa (ae (.ref (au 0) 0 0) wz rfl (ae (vI most_2) wz rfl ?_)))))))
 obtain ⟨r_3,hr_4,hF⟩:=bind_some hF
 refine Cj [0] (oP hr_4) rfl hb31 rfl (by kernel_rfl) (by kernel_rfl) (by kernel_rfl) (by kernel_rfl) (by kernel_rfl) rfl (by decide) (by kernel_rfl) wz ([((au 0),some (.cells 2 [(vL eI r_3.2.L),(vI r_3.2.f_at)]))]:Hp) (λ_=>by kernel_rfl) (λn_6=>ae (gV n_6 9 r_3.1) wz rfl (aj (af (af ?_))))
 obtain ⟨v_7,h_8,hF⟩:=bind_some hF
 refine aI (β:=Unit) (λ_=>([(0,(.ref (au 0) 0 0)),(5,(gV n_6 9 r_3.1)),(16,(vB v_7.1))]:SL_)) (λ_=>([((au 0),some (.cells 2 [(vL eI v_7.2.1),(vI v_7.2.2)])),(n_6,gB 9 Alert.enc r_3.1)]:Hp)) (λ_=>True) ?_ ?_
 ·refine aa (ae (gV n_6 9 r_3.1) wz rfl (yx lK rfl wz (ae (vB (decide ((r_3.1.length:Int)>0))) wz rfl ?_)))
  rcases ak h_8 with⟨hc_9,h_8⟩|⟨hc_9,h_8⟩
  ·refine aC rfl hc_9 wz (ae (.ref (au 0) 0 0) wa rfl ?_)
   obtain ⟨r_10,hr_11,h_8⟩:=bind_some h_8
   refine aW 0 [0] il ft (fu hr_11) rfl hb7 rfl (by kernel_rfl) (by kernel_rfl) (by kernel_rfl) (by kernel_rfl) (by kernel_rfl) (by kernel_rfl) (by kernel_rfl) (by decide) (by kernel_rfl) wa (vB r_10.1) (by kernel_rfl) ([((au 0),some (.cells 2 [(vL eI r_10.2.L),(vI r_10.2.f_at)])),(n_6,gB 9 Alert.enc r_3.1)]:Hp) (by kernel_rfl) (ae (vB r_10.1) wz rfl (aj ?_))
   obtain rfl:=ah h_8
   exact cu
  ·refine aC rfl hc_9 wz (ai wa (ai wa (ae (vB false) wz rfl (aj ?_))))
   obtain rfl:=ah h_8
   exact cu
 ·rintro ⟨⟩ _ sl_ H_ hp_ hq_
  refine aV _ hp_ hq_ ?_
  obtain ⟨v_13,h_14,hF⟩:=bind_some hF
  refine aI (β:=Unit) (λ_=>([(5,(gV n_6 9 v_13.1))]:SL_)) (λ_=>([((au 0),some (.cells 2 [(vL eI v_13.2.1),(vI v_13.2.2)])),(n_6,gB 9 Alert.enc v_13.1)]:Hp)) (λ_=>True) ?_ ?_
  ·rcases ak h_14 with⟨hc_15,h_14⟩|⟨hc_15,h_14⟩
   ·refine aA rfl hc_15 (af (aa (ae (gV n_6 9 r_3.1) wz rfl (ae (.ref (au 0) 0 0) wz rfl (ae (gV n_6 9 r_3.1) wz rfl (yx lK rfl wz ?_))))))
    obtain ⟨r_16,hr_17,h_14⟩:=bind_some h_14
    refine aW 0 [0] il ft (dL hr_17) rfl hb9 rfl (by kernel_rfl) (by kernel_rfl) (by kernel_rfl) (by kernel_rfl) (by kernel_rfl) (by kernel_rfl) (by kernel_rfl) (by decide) (by kernel_rfl) wz (vI r_16.1) (by kernel_rfl) ([((au 0),some (.cells 2 [(vL eI r_16.2.L),(vI r_16.2.f_at)])),(n_6,gB 9 Alert.enc r_3.1)]:Hp) (by kernel_rfl) ?_
    obtain ⟨_,hi_19,h_14⟩:=bind_some h_14
    refine Et iU rfl rfl (kC hi_19) (iy hi_19) wz (ae (.ref n_6 (0+(r_16.1).toNat) 0) wz rfl (aj (af (aa (ae (.ref (au 0) 0 0) wz rfl ?_)))))
    obtain ⟨r_20,hr_21,h_14⟩:=bind_some h_14
    refine aW 0 [0] il ft (dL hr_21) rfl hb9 rfl (by kernel_rfl) (by kernel_rfl) (by kernel_rfl) (by kernel_rfl) (by kernel_rfl) (by kernel_rfl) (by kernel_rfl) (by decide) (by kernel_rfl) wz (vI r_20.1) (by kernel_rfl) ([((au 0),some (.cells 2 [(vL eI r_20.2.L),(vI r_20.2.f_at)])),(n_6,gB 9 Alert.enc r_3.1)]:Hp) (by kernel_rfl) (aj (aB (af (aa (ae (vB (r_20.1==0)) wz rfl (ae (vB (r_20.1==0)) wz rfl (aj ?_)))))))
    rcases ak h_14 with⟨hc_23,h_14⟩|⟨hc_23,h_14⟩
    ·refine aA rfl hc_23 (aa (ae (.ref n_6 (0+(r_16.1).toNat) 0) wz rfl (ae (.ref n_6 (0+(r_16.1).toNat) 0) wz rfl (ae (.ref (au 0) 0 0) wz rfl (ae (.ref n_6 (0+(r_16.1).toNat) 0) wz rfl (ae (.ref n_6 (0+(r_16.1).toNat) 0) wz rfl (aF ic rfl 0 rfl wz ?_)))))))
     obtain ⟨e_24,hy_25,h_14⟩:=bind_some h_14
     refine kH 0 1 il ft sz9 ag9 rfl rfl hy_25 (vS e_24.Id) rfl wz (fB (([e_24.Id,(⟨#[]⟩:ByteArray),(⟨#[97,97]⟩:ByteArray)]:List ByteArray).map eS) lW rV rfl rfl rfl rfl rfl wz ?_)
     obtain ⟨r_26,hr_27,h_14⟩:=bind_some h_14
     refine aW 0 [0] il ft (gu hr_27) rfl HY rfl (by kernel_rfl) (by kernel_rfl) (by kernel_rfl) (by kernel_rfl) (by kernel_rfl) (by kernel_rfl) (by kernel_rfl) (by decide) (by kernel_rfl) wz (vS r_26.1) (by kernel_rfl) ([((au 0),some (.cells 2 [(vL eI r_26.2.L),(vI r_26.2.f_at)])),(n_6,gB 9 Alert.enc r_3.1)]:Hp) (by kernel_rfl) (ae (.ref (au 0) 0 0) wz rfl (fB (([(⟨#[119,120]⟩:ByteArray),(⟨#[65]⟩:ByteArray)]:List ByteArray).map eS) lW rV rfl rfl rfl rfl rfl wz ?_))
     obtain ⟨r_29,hr_30,h_14⟩:=bind_some h_14
     refine aW 0 [0] il ft (gu hr_30) rfl HY rfl (by kernel_rfl) (by kernel_rfl) (by kernel_rfl) (by kernel_rfl) (by kernel_rfl) (by kernel_rfl) (by kernel_rfl) (by decide) (by kernel_rfl) wz (vS r_29.1) (by kernel_rfl) ([((au 0),some (.cells 2 [(vL eI r_29.2.L),(vI r_29.2.f_at)])),(n_6,gB 9 Alert.enc r_3.1)]:Hp) (by kernel_rfl) (ae (.ref n_6 (0+(r_16.1).toNat) 0) wz rfl (aF ic rfl 0 rfl wz ?_))
     obtain ⟨e_32,hy_33,h_14⟩:=bind_some h_14
     refine kL 0 il ft 1 sz9 rfl rfl hy_33 (⟨r_26.1,e_32.Sender,e_32.Kind,e_32.Refs,e_32.At,e_32.Until,e_32.Weight,e_32.Areas,e_32.Text⟩:Alert) rfl wz (cK (v':=(gV n_6 9 (r_3.1.set (0+(r_16.1).toNat) (⟨r_26.1,e_32.Sender,e_32.Kind,e_32.Refs,e_32.At,e_32.Until,e_32.Weight,e_32.Areas,e_32.Text⟩:Alert)))) 5 rfl (dH (by simp)) (cK (v':=(gV n_6 9 (r_3.1.set (0+(r_16.1).toNat) (⟨r_26.1,e_32.Sender,e_32.Kind,e_32.Refs,e_32.At,e_32.Until,e_32.Weight,e_32.Areas,e_32.Text⟩:Alert)))) 17 rfl (dH (by simp)) (cK (v':=(gV n_6 9 (r_3.1.set (0+(r_16.1).toNat) (⟨r_26.1,e_32.Sender,e_32.Kind,e_32.Refs,e_32.At,e_32.Until,e_32.Weight,e_32.Areas,e_32.Text⟩:Alert)))) 19 rfl (dH (by simp)) (ae (.ref n_6 (0+(r_16.1).toNat) 0) wz rfl (aF vT rfl 1 rfl wz ?_)))))
     obtain ⟨e_34,hy_35,h_14⟩:=bind_some h_14
     refine kL 0 il ft 1 sz9 rfl rfl hy_35 (⟨e_34.Id,r_29.1,e_34.Kind,e_34.Refs,e_34.At,e_34.Until,e_34.Weight,e_34.Areas,e_34.Text⟩:Alert) rfl wz (cK (v':=(gV n_6 9 ((r_3.1.set (0+(r_16.1).toNat) (⟨r_26.1,e_32.Sender,e_32.Kind,e_32.Refs,e_32.At,e_32.Until,e_32.Weight,e_32.Areas,e_32.Text⟩:Alert)).set (0+(r_16.1).toNat) (⟨e_34.Id,r_29.1,e_34.Kind,e_34.Refs,e_34.At,e_34.Until,e_34.Weight,e_34.Areas,e_34.Text⟩:Alert)))) 5 rfl (dH (by simp)) (cK (v':=(gV n_6 9 ((r_3.1.set (0+(r_16.1).toNat) (⟨r_26.1,e_32.Sender,e_32.Kind,e_32.Refs,e_32.At,e_32.Until,e_32.Weight,e_32.Areas,e_32.Text⟩:Alert)).set (0+(r_16.1).toNat) (⟨e_34.Id,r_29.1,e_34.Kind,e_34.Refs,e_34.At,e_34.Until,e_34.Weight,e_34.Areas,e_34.Text⟩:Alert)))) 17 rfl (dH (by simp)) (cK (v':=(gV n_6 9 ((r_3.1.set (0+(r_16.1).toNat) (⟨r_26.1,e_32.Sender,e_32.Kind,e_32.Refs,e_32.At,e_32.Until,e_32.Weight,e_32.Areas,e_32.Text⟩:Alert)).set (0+(r_16.1).toNat) (⟨e_34.Id,r_29.1,e_34.Kind,e_34.Refs,e_34.At,e_34.Until,e_34.Weight,e_34.Areas,e_34.Text⟩:Alert)))) 19 rfl (dH (by simp)) (aj ?_))))
     obtain rfl:=ah h_14
     exact cu
    ·refine ax rfl hc_23 (af (aa (ae (vB (r_20.1==1)) wz rfl (ae (vB (r_20.1==1)) wz rfl (aj ?_)))))
     rcases ak h_14 with⟨hc_36,h_14⟩|⟨hc_36,h_14⟩
     ·refine aA rfl hc_36 (aa (ae (.ref n_6 (0+(r_16.1).toNat) 0) wz rfl (ae (.ref (au 0) 0 0) wz rfl ?_)))
      obtain ⟨r_37,hr_38,h_14⟩:=bind_some h_14
      refine aW 0 [0] il ft (fI hr_38) rfl Es rfl (by kernel_rfl) (by kernel_rfl) (by kernel_rfl) (by kernel_rfl) (by kernel_rfl) (by kernel_rfl) (by kernel_rfl) (by decide) (by kernel_rfl) wz (vI r_37.1) (by kernel_rfl) ([((au 0),some (.cells 2 [(vL eI r_37.2.L),(vI r_37.2.f_at)])),(n_6,gB 9 Alert.enc r_3.1)]:Hp) (by kernel_rfl) (ae (.ref n_6 (0+(r_16.1).toNat) 0) wz rfl (aF l5 rfl 2 rfl wz ?_))
      obtain ⟨e_40,hy_41,h_14⟩:=bind_some h_14
      refine kL 0 il ft 1 sz3 rfl rfl hy_41 (⟨e_40.Id,e_40.Sender,r_37.1,e_40.Refs,e_40.At,e_40.Until,e_40.Weight,e_40.Areas,e_40.Text⟩:Alert) rfl wz (cK (v':=(gV n_6 9 (r_3.1.set (0+(r_16.1).toNat) (⟨e_40.Id,e_40.Sender,r_37.1,e_40.Refs,e_40.At,e_40.Until,e_40.Weight,e_40.Areas,e_40.Text⟩:Alert)))) 5 rfl (dH (by simp)) (cK (v':=(gV n_6 9 (r_3.1.set (0+(r_16.1).toNat) (⟨e_40.Id,e_40.Sender,r_37.1,e_40.Refs,e_40.At,e_40.Until,e_40.Weight,e_40.Areas,e_40.Text⟩:Alert)))) 17 rfl (dH (by simp)) (cK (v':=(gV n_6 9 (r_3.1.set (0+(r_16.1).toNat) (⟨e_40.Id,e_40.Sender,r_37.1,e_40.Refs,e_40.At,e_40.Until,e_40.Weight,e_40.Areas,e_40.Text⟩:Alert)))) 19 rfl (dH (by simp)) (aj ?_))))
      obtain rfl:=ah h_14
      exact cu
     ·refine ax rfl hc_36 (af (aa (ae (vB (r_20.1==2)) wz rfl (ae (vB (r_20.1==2)) wz rfl (aj ?_)))))
      rcases ak h_14 with⟨hc_42,h_14⟩|⟨hc_42,h_14⟩
      ·refine aA rfl hc_42 (eu (ae (.ref n_6 (0+(r_16.1).toNat) 0) wz rfl (fB (([(⟨#[97,98]⟩:ByteArray),(⟨#[97,97]⟩:ByteArray)]:List ByteArray).map eS) lW rV rfl rfl rfl rfl rfl wz (ae (.ref n_6 (0+(r_16.1).toNat) 0) wz rfl (ae (.ref n_6 (0+(r_16.1).toNat) 0) wz rfl (aF ic rfl 0 rfl wz ?_))))))
       obtain ⟨e_43,hy_44,h_14⟩:=bind_some h_14
       refine kH 5 1 (.inr (by kernel_rfl)) (λ_ _ ag=>trivial) sz9 ag9 rfl rfl hy_44 (vS e_43.Id) rfl wz (fB (([e_43.Id]:List ByteArray).map eS) lW rV rfl rfl rfl rfl rfl wz (fB (([(⟨#[65]⟩:ByteArray)]:List ByteArray).map eS) lW rV rfl rfl rfl rfl rfl wz (fB (([(⟨#[97,97]⟩:ByteArray),(⟨#[122,122]⟩:ByteArray)]:List ByteArray).map eS) lW rV rfl rfl rfl rfl rfl wz (fB (([([]:List ByteArray),([(⟨#[97,98]⟩:ByteArray),(⟨#[97,97]⟩:ByteArray)]:List ByteArray),([e_43.Id]:List ByteArray),([(⟨#[65]⟩:ByteArray)]:List ByteArray),([(⟨#[97,97]⟩:ByteArray),(⟨#[122,122]⟩:ByteArray)]:List ByteArray)]:List (List ByteArray)).map (eL eS)) es62 ez62 rfl rfl rfl rfl rfl wz (ae (.ref (au 0) 0 0) wz rfl ?_)))))
       obtain ⟨r_45,hr_46,h_14⟩:=bind_some h_14
       refine aW 11 [0] (.inr (by kernel_rfl)) (λ_ _ ag=>by exact⟨.inr (.inl (dis1 (Ja ag (i:=0) (j:=1) rfl rfl (by decide)))),trivial⟩) (dL hr_46) rfl hb9 rfl (by kernel_rfl) (by kernel_rfl) (by kernel_rfl) (by kernel_rfl) (by kernel_rfl) (by kernel_rfl) (by kernel_rfl) (by decide) (by kernel_rfl) wz (vI r_45.1) (by kernel_rfl) ([((au 0),some (.cells 2 [(vL eI r_45.2.L),(vI r_45.2.f_at)])),(n_6,gB 9 Alert.enc r_3.1)]:Hp) (by kernel_rfl) ?_
       obtain ⟨y_48,hy_49,h_14⟩:=bind_some h_14
       refine jk es62 rfl rfl hy_49 rfl wz (fA qO uq rfl (vL eS y_48) rfl wz (ae (.ref n_6 (0+(r_16.1).toNat) 0) wz rfl (aF jB rfl 3 rfl wz ?_)))
       obtain ⟨e_50,hy_51,h_14⟩:=bind_some h_14
       refine kL 16 (.inr (by kernel_rfl)) (λ_ _ ag=>⟨.inr (.inr (by kernel_rfl)),⟨.inr (.inr (by kernel_rfl)),trivial⟩⟩) 1 qO rfl rfl hy_51 (⟨e_50.Id,e_50.Sender,e_50.Kind,y_48,e_50.At,e_50.Until,e_50.Weight,e_50.Areas,e_50.Text⟩:Alert) rfl wz (cK (v':=(gV n_6 9 (r_3.1.set (0+(r_16.1).toNat) (⟨e_50.Id,e_50.Sender,e_50.Kind,y_48,e_50.At,e_50.Until,e_50.Weight,e_50.Areas,e_50.Text⟩:Alert)))) 5 rfl (dH (by simp)) (cK (v':=(gV n_6 9 (r_3.1.set (0+(r_16.1).toNat) (⟨e_50.Id,e_50.Sender,e_50.Kind,y_48,e_50.At,e_50.Until,e_50.Weight,e_50.Areas,e_50.Text⟩:Alert)))) 17 rfl (dH (by simp)) (cK (v':=(gV n_6 9 (r_3.1.set (0+(r_16.1).toNat) (⟨e_50.Id,e_50.Sender,e_50.Kind,y_48,e_50.At,e_50.Until,e_50.Weight,e_50.Areas,e_50.Text⟩:Alert)))) 19 rfl (dH (by simp)) (aj ?_))))
       obtain rfl:=ah h_14
       exact cu
      ·refine ax rfl hc_42 (af (aa (ae (vB (r_20.1==3)) wz rfl (ae (vB (r_20.1==3)) wz rfl (aj ?_)))))
       rcases ak h_14 with⟨hc_52,h_14⟩|⟨hc_52,h_14⟩
       ·refine aA rfl hc_52 (aa (ae (.ref n_6 (0+(r_16.1).toNat) 0) wz rfl (ae (.ref n_6 (0+(r_16.1).toNat) 0) wz rfl (ae (.ref (au 0) 0 0) wz rfl ?_))))
        obtain ⟨r_53,hr_54,h_14⟩:=bind_some h_14
        refine aW 0 [0] il ft (fI hr_54) rfl Es rfl (by kernel_rfl) (by kernel_rfl) (by kernel_rfl) (by kernel_rfl) (by kernel_rfl) (by kernel_rfl) (by kernel_rfl) (by decide) (by kernel_rfl) wz (vI r_53.1) (by kernel_rfl) ([((au 0),some (.cells 2 [(vL eI r_53.2.L),(vI r_53.2.f_at)])),(n_6,gB 9 Alert.enc r_3.1)]:Hp) (by kernel_rfl) (ae (.ref (au 0) 0 0) wz rfl ?_)
        obtain ⟨r_56,hr_57,h_14⟩:=bind_some h_14
        refine aW 0 [0] il ft (fI hr_57) rfl Es rfl (by kernel_rfl) (by kernel_rfl) (by kernel_rfl) (by kernel_rfl) (by kernel_rfl) (by kernel_rfl) (by kernel_rfl) (by decide) (by kernel_rfl) wz (vI r_56.1) (by kernel_rfl) ([((au 0),some (.cells 2 [(vL eI r_56.2.L),(vI r_56.2.f_at)])),(n_6,gB 9 Alert.enc r_3.1)]:Hp) (by kernel_rfl) (ae (.ref n_6 (0+(r_16.1).toNat) 0) wz rfl (aF iG rfl 4 rfl wz ?_))
        obtain ⟨e_59,hy_60,h_14⟩:=bind_some h_14
        refine kL 0 il ft 1 sz3 rfl rfl hy_60 (⟨e_59.Id,e_59.Sender,e_59.Kind,e_59.Refs,r_53.1,e_59.Until,e_59.Weight,e_59.Areas,e_59.Text⟩:Alert) rfl wz (cK (v':=(gV n_6 9 (r_3.1.set (0+(r_16.1).toNat) (⟨e_59.Id,e_59.Sender,e_59.Kind,e_59.Refs,r_53.1,e_59.Until,e_59.Weight,e_59.Areas,e_59.Text⟩:Alert)))) 5 rfl (dH (by simp)) (cK (v':=(gV n_6 9 (r_3.1.set (0+(r_16.1).toNat) (⟨e_59.Id,e_59.Sender,e_59.Kind,e_59.Refs,r_53.1,e_59.Until,e_59.Weight,e_59.Areas,e_59.Text⟩:Alert)))) 17 rfl (dH (by simp)) (cK (v':=(gV n_6 9 (r_3.1.set (0+(r_16.1).toNat) (⟨e_59.Id,e_59.Sender,e_59.Kind,e_59.Refs,r_53.1,e_59.Until,e_59.Weight,e_59.Areas,e_59.Text⟩:Alert)))) 19 rfl (dH (by simp)) (ae (.ref n_6 (0+(r_16.1).toNat) 0) wz rfl (aF uA rfl 5 rfl wz ?_)))))
        obtain ⟨e_61,hy_62,h_14⟩:=bind_some h_14
        refine kL 0 il ft 1 sz3 rfl rfl hy_62 (⟨e_61.Id,e_61.Sender,e_61.Kind,e_61.Refs,e_61.At,r_56.1,e_61.Weight,e_61.Areas,e_61.Text⟩:Alert) rfl wz (cK (v':=(gV n_6 9 ((r_3.1.set (0+(r_16.1).toNat) (⟨e_59.Id,e_59.Sender,e_59.Kind,e_59.Refs,r_53.1,e_59.Until,e_59.Weight,e_59.Areas,e_59.Text⟩:Alert)).set (0+(r_16.1).toNat) (⟨e_61.Id,e_61.Sender,e_61.Kind,e_61.Refs,e_61.At,r_56.1,e_61.Weight,e_61.Areas,e_61.Text⟩:Alert)))) 5 rfl (dH (by simp)) (cK (v':=(gV n_6 9 ((r_3.1.set (0+(r_16.1).toNat) (⟨e_59.Id,e_59.Sender,e_59.Kind,e_59.Refs,r_53.1,e_59.Until,e_59.Weight,e_59.Areas,e_59.Text⟩:Alert)).set (0+(r_16.1).toNat) (⟨e_61.Id,e_61.Sender,e_61.Kind,e_61.Refs,e_61.At,r_56.1,e_61.Weight,e_61.Areas,e_61.Text⟩:Alert)))) 17 rfl (dH (by simp)) (cK (v':=(gV n_6 9 ((r_3.1.set (0+(r_16.1).toNat) (⟨e_59.Id,e_59.Sender,e_59.Kind,e_59.Refs,r_53.1,e_59.Until,e_59.Weight,e_59.Areas,e_59.Text⟩:Alert)).set (0+(r_16.1).toNat) (⟨e_61.Id,e_61.Sender,e_61.Kind,e_61.Refs,e_61.At,r_56.1,e_61.Weight,e_61.Areas,e_61.Text⟩:Alert)))) 19 rfl (dH (by simp)) (aj ?_))))
        obtain rfl:=ah h_14
        exact cu
       ·refine ax rfl hc_52 (af (aa (ae (vB (r_20.1==4)) wz rfl (ae (vB (r_20.1==4)) wz rfl (aj ?_)))))
        rcases ak h_14 with⟨hc_63,h_14⟩|⟨hc_63,h_14⟩
        ·refine aA rfl hc_63 (aa (ae (.ref n_6 (0+(r_16.1).toNat) 0) wz rfl (ae (.ref n_6 (0+(r_16.1).toNat) 0) wz rfl (ae (.ref (au 0) 0 0) wz rfl ?_))))
         obtain ⟨r_64,hr_65,h_14⟩:=bind_some h_14
         refine aW 0 [0] il ft (uF hr_65) rfl hb38 rfl (by kernel_rfl) (by kernel_rfl) (by kernel_rfl) (by kernel_rfl) (by kernel_rfl) (by kernel_rfl) (by kernel_rfl) (by decide) (by kernel_rfl) wz (vL Rect.enc r_64.1) (by kernel_rfl) ([((au 0),some (.cells 2 [(vL eI r_64.2.L),(vI r_64.2.f_at)])),(n_6,gB 9 Alert.enc r_3.1)]:Hp) (by kernel_rfl) (ae (.ref (au 0) 0 0) wz rfl ?_)
         obtain ⟨r_67,hr_68,h_14⟩:=bind_some h_14
         refine aW 0 [0] il ft (fI hr_68) rfl Es rfl (by kernel_rfl) (by kernel_rfl) (by kernel_rfl) (by kernel_rfl) (by kernel_rfl) (by kernel_rfl) (by kernel_rfl) (by decide) (by kernel_rfl) wz (vI r_67.1) (by kernel_rfl) ([((au 0),some (.cells 2 [(vL eI r_67.2.L),(vI r_67.2.f_at)])),(n_6,gB 9 Alert.enc r_3.1)]:Hp) (by kernel_rfl) (ae (.ref n_6 (0+(r_16.1).toNat) 0) wz rfl (aF kY rfl 7 rfl wz ?_))
         obtain ⟨e_70,hy_71,h_14⟩:=bind_some h_14
         refine kL 0 il ft 1 tY rfl rfl hy_71 (⟨e_70.Id,e_70.Sender,e_70.Kind,e_70.Refs,e_70.At,e_70.Until,e_70.Weight,r_64.1,e_70.Text⟩:Alert) rfl wz (cK (v':=(gV n_6 9 (r_3.1.set (0+(r_16.1).toNat) (⟨e_70.Id,e_70.Sender,e_70.Kind,e_70.Refs,e_70.At,e_70.Until,e_70.Weight,r_64.1,e_70.Text⟩:Alert)))) 5 rfl (dH (by simp)) (cK (v':=(gV n_6 9 (r_3.1.set (0+(r_16.1).toNat) (⟨e_70.Id,e_70.Sender,e_70.Kind,e_70.Refs,e_70.At,e_70.Until,e_70.Weight,r_64.1,e_70.Text⟩:Alert)))) 17 rfl (dH (by simp)) (cK (v':=(gV n_6 9 (r_3.1.set (0+(r_16.1).toNat) (⟨e_70.Id,e_70.Sender,e_70.Kind,e_70.Refs,e_70.At,e_70.Until,e_70.Weight,r_64.1,e_70.Text⟩:Alert)))) 19 rfl (dH (by simp)) (ae (.ref n_6 (0+(r_16.1).toNat) 0) wz rfl (aF uG rfl 6 rfl wz ?_)))))
         obtain ⟨e_72,hy_73,h_14⟩:=bind_some h_14
         refine kL 0 il ft 1 sz3 rfl rfl hy_73 (⟨e_72.Id,e_72.Sender,e_72.Kind,e_72.Refs,e_72.At,e_72.Until,r_67.1,e_72.Areas,e_72.Text⟩:Alert) rfl wz (cK (v':=(gV n_6 9 ((r_3.1.set (0+(r_16.1).toNat) (⟨e_70.Id,e_70.Sender,e_70.Kind,e_70.Refs,e_70.At,e_70.Until,e_70.Weight,r_64.1,e_70.Text⟩:Alert)).set (0+(r_16.1).toNat) (⟨e_72.Id,e_72.Sender,e_72.Kind,e_72.Refs,e_72.At,e_72.Until,r_67.1,e_72.Areas,e_72.Text⟩:Alert)))) 5 rfl (dH (by simp)) (cK (v':=(gV n_6 9 ((r_3.1.set (0+(r_16.1).toNat) (⟨e_70.Id,e_70.Sender,e_70.Kind,e_70.Refs,e_70.At,e_70.Until,e_70.Weight,r_64.1,e_70.Text⟩:Alert)).set (0+(r_16.1).toNat) (⟨e_72.Id,e_72.Sender,e_72.Kind,e_72.Refs,e_72.At,e_72.Until,r_67.1,e_72.Areas,e_72.Text⟩:Alert)))) 17 rfl (dH (by simp)) (cK (v':=(gV n_6 9 ((r_3.1.set (0+(r_16.1).toNat) (⟨e_70.Id,e_70.Sender,e_70.Kind,e_70.Refs,e_70.At,e_70.Until,e_70.Weight,r_64.1,e_70.Text⟩:Alert)).set (0+(r_16.1).toNat) (⟨e_72.Id,e_72.Sender,e_72.Kind,e_72.Refs,e_72.At,e_72.Until,r_67.1,e_72.Areas,e_72.Text⟩:Alert)))) 19 rfl (dH (by simp)) (aj ?_))))
         obtain rfl:=ah h_14
         exact cu
        ·refine ax rfl hc_63 (aa (ae (.ref n_6 (0+(r_16.1).toNat) 0) wz rfl (ae (.ref (au 0) 0 0) wz rfl (fB (([(⟨#[]⟩:ByteArray),(⟨#[32,120]⟩:ByteArray),(⟨#[97,32,32,98]⟩:ByteArray),(⟨#[10]⟩:ByteArray),(⟨#[255]⟩:ByteArray)]:List ByteArray).map eS) lW rV rfl rfl rfl rfl rfl wz ?_))))
         obtain ⟨r_74,hr_75,h_14⟩:=bind_some h_14
         refine aW 0 [0] il ft (gu hr_75) rfl HY rfl (by kernel_rfl) (by kernel_rfl) (by kernel_rfl) (by kernel_rfl) (by kernel_rfl) (by kernel_rfl) (by kernel_rfl) (by decide) (by kernel_rfl) wz (vS r_74.1) (by kernel_rfl) ([((au 0),some (.cells 2 [(vL eI r_74.2.L),(vI r_74.2.f_at)])),(n_6,gB 9 Alert.enc r_3.1)]:Hp) (by kernel_rfl) (ae (.ref n_6 (0+(r_16.1).toNat) 0) wz rfl (aF ni rfl 8 rfl wz ?_))
         obtain ⟨e_77,hy_78,h_14⟩:=bind_some h_14
         refine kL 0 il ft 1 sz9 rfl rfl hy_78 (⟨e_77.Id,e_77.Sender,e_77.Kind,e_77.Refs,e_77.At,e_77.Until,e_77.Weight,e_77.Areas,r_74.1⟩:Alert) rfl wz (cK (v':=(gV n_6 9 (r_3.1.set (0+(r_16.1).toNat) (⟨e_77.Id,e_77.Sender,e_77.Kind,e_77.Refs,e_77.At,e_77.Until,e_77.Weight,e_77.Areas,r_74.1⟩:Alert)))) 5 rfl (dH (by simp)) (cK (v':=(gV n_6 9 (r_3.1.set (0+(r_16.1).toNat) (⟨e_77.Id,e_77.Sender,e_77.Kind,e_77.Refs,e_77.At,e_77.Until,e_77.Weight,e_77.Areas,r_74.1⟩:Alert)))) 17 rfl (dH (by simp)) (cK (v':=(gV n_6 9 (r_3.1.set (0+(r_16.1).toNat) (⟨e_77.Id,e_77.Sender,e_77.Kind,e_77.Refs,e_77.At,e_77.Until,e_77.Weight,e_77.Areas,r_74.1⟩:Alert)))) 19 rfl (dH (by simp)) (aj ?_))))
         obtain rfl:=ah h_14
         exact cu
   ·refine ax rfl hc_15 (av ?_)
    obtain rfl:=ah h_14
    exact cu
  ·rintro ⟨⟩ _ sl_ H_ hp_ hq_
   refine aV _ hp_ hq_ (af (aa (ae (gV n_6 9 v_13.1) wz rfl (ae (gV n_6 9 v_13.1) wz rfl (aj (jq 1 rfl (fC 4 1 rfl rfl (fC 5 1 rfl rfl (fC 98 1 rfl rfl ?_)))))))))
   obtain rfl:=ah hF
   exact ay (uj (.inr rfl) [(vL Alert.enc v_13.1)] _ [0] [au 0] ⟨rfl,trivial⟩ (.cons (iq rfl rfl) (.nil)) (by kernel_rfl) ⟨(by kernel_rfl),trivial⟩ (by decide) (by kernel_rfl))
theorem gK {s_1:(List Alert)} {r:(List Alert)} (hF:aP s_1=some r) :
  FnM Tryz.prog 8 [(vL Alert.enc s_1)] [] (gV (au 0) 9 r) (([]:List Box).map some++gO 9 Alert.enc r):=by
 refine FnM.of_wH ⟨Tryz.prog,8,[],[]⟩ rfl Tryz.func8 rfl rfl (lb_ rfl) (by kernel_rfl) ?_
 unfold aP at hF
 refine af (aa (ae .nil wz rfl (aj (af (af (aa (ae (vL Alert.enc s_1) wz rfl (BI lK rfl wz (λb_2 hb_3=>aj ?_)))))))))
 cases b_2 with
 | true =>
  refine aA rfl rfl ?_
  obtain rfl:=hb_3 rfl
  replace hF:=wK hF
  refine af (aa (ae .nil wz rfl (aj (uf (λn_4 => ?_)))))
  obtain rfl:=ah hF
  exact ay (finG (outs:=([]:List Box)) (.inr rfl) 0 rfl rfl rfl (by kernel_rfl) (by kernel_rfl))
 | false =>
  refine ax rfl rfl (av (af (aa (Ff iU Eh rfl wz (ae (vL Alert.enc s_1) wz rfl ?_)))))
  obtain ⟨a_5,hz_6,hF⟩:=bind_some hF
  refine En 0 (.inl rfl) vZ vZ dM z33 rfl (by decide) GN (by decide) (λ_=>rfl) rfl rfl hz_6 wz (λn_7=>ae (gV n_7 9 a_5) wz rfl (aj ?_))
  obtain rfl:=ah hF
  exact ay (finG (outs:=([]:List Box)) (.inr rfl) 0 rfl rfl rfl (by kernel_rfl) (by kernel_rfl))
theorem nN {s_1:ByteArray} {r:Bool} (hF:kit_IsKey s_1=some r) :
  FnM Tryz.prog 87 [(vS s_1)] [] (vB r) []:=by
 refine FnM.of_wH ⟨Tryz.prog,48,[],[]⟩ rfl Tryz.func87 rfl rfl (lb_ rfl) (by kernel_rfl) ?_
 unfold kit_IsKey at hF
 refine af (aa (ae (vB false) wz rfl (aj (af (af (aa (ae (vI 0) wz rfl (aj ?_))))))))
 obtain ⟨o_10,hj_11,hF⟩:=bind_some hF
 obtain ⟨nq_33,hj_11⟩:=fE hj_11
 refine aI (β:=(Int)) (λ(s_7:Int)=>([(0,(vS s_1))]:SL_)) (λ(s_7:Int)=>([]:Hp)) (λp=>o_10 = .go p) ?_ ?_
 ·refine aB (bn (β:=Nat×(Int)) (λp=>(λ(k_2:Nat) (s_7:Int)=>([(0,(vS s_1)),(3,(vI s_7))]:SL_)) p.1 p.2) (λp=>(λ(k_2:Nat) (s_7:Int)=>([]:Hp)) p.1 p.2) (λp=>iterN (λs=>iE s_1 s) p.1 p.2=some o_10) (λp=>p.1) (nq_33,0) hj_11 rfl (aK rfl) ?_)
  rintro ⟨k_2,s_7⟩ hL_9
  dsimp only at hL_9
  cases k_2 with
  | zero=>cases hL_9
  | succ k_2 =>
   obtain ⟨c_,hc_8,hL_9⟩:=bind_some hL_9
   unfold iE at hc_8
   refine af (af (aa (ae (vI s_7) wz rfl (ae (vS s_1) wz rfl (nk un9 rfl wz (ae (vB (decide (s_7<(s_1.size:Int)))) wz rfl (aj ?_)))))))
   rcases ak hc_8 with⟨hc_12,hc_8⟩|⟨hc_12,hc_8⟩
   ·refine aA rfl hc_12 (av (af (aB (af (aa (ae (vS s_1) wz rfl (ae (vI s_7) wz rfl ?_)))))))
    obtain ⟨b_13,hy_14,hc_8⟩:=bind_some hc_8
    refine o9 un9 rfl rfl hy_14 wz (ae (.d (.int .u8 (b_13.toNat:Int))) wz rfl (aj (af ?_)))
    obtain ⟨v_15,h_16,hc_8⟩:=bind_some hc_8
    refine aI (β:=Unit) (λ_=>([(0,(vS s_1)),(3,(vI s_7)),(40,(vB v_15))]:SL_)) (λ_=>([]:Hp)) (λ_=>True) ?_ ?_
    ·refine aa (ae (.d (.int .u8 (b_13.toNat:Int))) wz rfl (ae (vB (decide ((b_13.toNat:Int)>=97))) wz rfl ?_))
     rcases ak h_16 with⟨hc_17,h_16⟩|⟨hc_17,h_16⟩
     ·refine aC rfl hc_17 wz (ae (.d (.int .u8 (b_13.toNat:Int))) wa rfl (ae (vB (decide ((b_13.toNat:Int)<=122))) wa rfl (ae (vB (decide ((b_13.toNat:Int)<=122))) wz rfl ?_)))
      rcases ak h_16 with⟨hc_18,h_16⟩|⟨hc_18,h_16⟩
      ·refine aC rfl hc_18 wz (ai wa (ai wa (ai wa (ai (wn rfl rfl) (ai (wn rfl rfl) (ai (wn rfl rfl) (ai (wn rfl rfl) (ai (wn rfl rfl) (ai (wn rfl rfl) (ai (wn rfl rfl) (ai (wn rfl rfl) (ai (wn rfl rfl) (ai (wn rfl rfl) (ai (wn rfl rfl) (ai (wn rfl rfl) (ai (wn rfl rfl) (ai (wn rfl rfl) (ai wa (ae (vB true) wz rfl (ae (vB false) wz rfl (aj ?_)))))))))))))))))))))
       obtain rfl:=ah h_16
       exact cu
      ·refine aC rfl hc_18 wz (ae (vI s_7) wa rfl (ae (vB (decide (s_7>0))) wa rfl ?_))
       rcases ak h_16 with⟨hc_19,h_16⟩|⟨hc_19,h_16⟩
       ·refine aC rfl hc_19 wa (ae (.d (.int .u8 (b_13.toNat:Int))) wa rfl (ae (vB (decide ((b_13.toNat:Int)>=48))) wa rfl ?_))
        rcases ak h_16 with⟨hc_20,h_16⟩|⟨hc_20,h_16⟩
        ·refine aC rfl hc_20 wa (ae (.d (.int .u8 (b_13.toNat:Int))) wa rfl (ae (vB (decide ((b_13.toNat:Int)<=57))) wa rfl (ae (vB (decide ((b_13.toNat:Int)<=57))) wa rfl ?_)))
         rcases ak h_16 with⟨hc_21,h_16⟩|⟨hc_21,h_16⟩
         ·refine aC rfl hc_21 wa (ai wa (ai wa (ae (vB true) wa rfl (ae (vB true) wa rfl (ai wa (ai wa (ae (vB true) wa rfl (ae (vB true) wa rfl (ae (vB true) wz rfl (ae (vB false) wz rfl (aj ?_)))))))))))
          obtain rfl:=ah h_16
          exact cu
         ·refine aC rfl hc_21 wa (ae (.d (.int .u8 (b_13.toNat:Int))) wa rfl (ae (vB ((b_13.toNat:Int)==45)) wa rfl (ae (vB ((b_13.toNat:Int)==45)) wa rfl ?_)))
          rcases ak h_16 with⟨hc_22,h_16⟩|⟨hc_22,h_16⟩
          ·refine aC rfl hc_22 wa (ai wa (ai wa (ae (vB true) wa rfl (ae (vB true) wa rfl (ae (vB true) wz rfl (ae (vB false) wz rfl (aj ?_)))))))
           obtain rfl:=ah h_16
           exact cu
          ·refine aC rfl hc_22 wa (ae (.d (.int .u8 (b_13.toNat:Int))) wa rfl (ae (vB ((b_13.toNat:Int)==95)) wa rfl (ae (vB ((b_13.toNat:Int)==95)) wa rfl (ae (vB ((b_13.toNat:Int)==95)) wa rfl (ae (vB ((b_13.toNat:Int)==95)) wz rfl (ae (vB (!((b_13.toNat:Int)==95))) wz rfl (aj ?_)))))))
           obtain rfl:=ah h_16
           exact cu
        ·refine aC rfl hc_20 wa (ai wa (ai wa (ae (vB false) wa rfl (ae (vB false) wa rfl (ae (.d (.int .u8 (b_13.toNat:Int))) wa rfl (ae (vB ((b_13.toNat:Int)==45)) wa rfl (ae (vB ((b_13.toNat:Int)==45)) wa rfl ?_)))))))
         rcases ak h_16 with⟨hc_23,h_16⟩|⟨hc_23,h_16⟩
         ·refine aC rfl hc_23 wa (ai wa (ai wa (ae (vB true) wa rfl (ae (vB true) wa rfl (ae (vB true) wz rfl (ae (vB false) wz rfl (aj ?_)))))))
          obtain rfl:=ah h_16
          exact cu
         ·refine aC rfl hc_23 wa (ae (.d (.int .u8 (b_13.toNat:Int))) wa rfl (ae (vB ((b_13.toNat:Int)==95)) wa rfl (ae (vB ((b_13.toNat:Int)==95)) wa rfl (ae (vB ((b_13.toNat:Int)==95)) wa rfl (ae (vB ((b_13.toNat:Int)==95)) wz rfl (ae (vB (!((b_13.toNat:Int)==95))) wz rfl (aj ?_)))))))
          obtain rfl:=ah h_16
          exact cu
       ·refine aC rfl hc_19 wa (ai wa (ai wa (ai wa (ai (wn rfl rfl) (ai (wn rfl rfl) (ai wa (ai wa (ai (wn rfl rfl) (ai (wn rfl rfl) (ai wa (ai wa (ai (wn rfl rfl) (ai (wn rfl rfl) (ai wa (ae (vB false) wa rfl (ae (vB false) wz rfl (ae (vB true) wz rfl (aj ?_))))))))))))))))))
        obtain rfl:=ah h_16
        exact cu
     ·refine aC rfl hc_17 wz (ai wa (ai wa (ae (vB false) wz rfl (ae (vB false) wz rfl (ae (vI s_7) wa rfl (ae (vB (decide (s_7>0))) wa rfl ?_))))))
      rcases ak h_16 with⟨hc_24,h_16⟩|⟨hc_24,h_16⟩
      ·refine aC rfl hc_24 wa (ae (.d (.int .u8 (b_13.toNat:Int))) wa rfl (ae (vB (decide ((b_13.toNat:Int)>=48))) wa rfl ?_))
       rcases ak h_16 with⟨hc_25,h_16⟩|⟨hc_25,h_16⟩
       ·refine aC rfl hc_25 wa (ae (.d (.int .u8 (b_13.toNat:Int))) wa rfl (ae (vB (decide ((b_13.toNat:Int)<=57))) wa rfl (ae (vB (decide ((b_13.toNat:Int)<=57))) wa rfl ?_)))
        rcases ak h_16 with⟨hc_26,h_16⟩|⟨hc_26,h_16⟩
        ·refine aC rfl hc_26 wa (ai wa (ai wa (ae (vB true) wa rfl (ae (vB true) wa rfl (ai wa (ai wa (ae (vB true) wa rfl (ae (vB true) wa rfl (ae (vB true) wz rfl (ae (vB false) wz rfl (aj ?_)))))))))))
         obtain rfl:=ah h_16
         exact cu
        ·refine aC rfl hc_26 wa (ae (.d (.int .u8 (b_13.toNat:Int))) wa rfl (ae (vB ((b_13.toNat:Int)==45)) wa rfl (ae (vB ((b_13.toNat:Int)==45)) wa rfl ?_)))
         rcases ak h_16 with⟨hc_27,h_16⟩|⟨hc_27,h_16⟩
         ·refine aC rfl hc_27 wa (ai wa (ai wa (ae (vB true) wa rfl (ae (vB true) wa rfl (ae (vB true) wz rfl (ae (vB false) wz rfl (aj ?_)))))))
          obtain rfl:=ah h_16
          exact cu
         ·refine aC rfl hc_27 wa (ae (.d (.int .u8 (b_13.toNat:Int))) wa rfl (ae (vB ((b_13.toNat:Int)==95)) wa rfl (ae (vB ((b_13.toNat:Int)==95)) wa rfl (ae (vB ((b_13.toNat:Int)==95)) wa rfl (ae (vB ((b_13.toNat:Int)==95)) wz rfl (ae (vB (!((b_13.toNat:Int)==95))) wz rfl (aj ?_)))))))
          obtain rfl:=ah h_16
          exact cu
       ·refine aC rfl hc_25 wa (ai wa (ai wa (ae (vB false) wa rfl (ae (vB false) wa rfl (ae (.d (.int .u8 (b_13.toNat:Int))) wa rfl (ae (vB ((b_13.toNat:Int)==45)) wa rfl (ae (vB ((b_13.toNat:Int)==45)) wa rfl ?_)))))))
        rcases ak h_16 with⟨hc_28,h_16⟩|⟨hc_28,h_16⟩
        ·refine aC rfl hc_28 wa (ai wa (ai wa (ae (vB true) wa rfl (ae (vB true) wa rfl (ae (vB true) wz rfl (ae (vB false) wz rfl (aj ?_)))))))
         obtain rfl:=ah h_16
         exact cu
        ·refine aC rfl hc_28 wa (ae (.d (.int .u8 (b_13.toNat:Int))) wa rfl (ae (vB ((b_13.toNat:Int)==95)) wa rfl (ae (vB ((b_13.toNat:Int)==95)) wa rfl (ae (vB ((b_13.toNat:Int)==95)) wa rfl (ae (vB ((b_13.toNat:Int)==95)) wz rfl (ae (vB (!((b_13.toNat:Int)==95))) wz rfl (aj ?_)))))))
         obtain rfl:=ah h_16
         exact cu
      ·refine aC rfl hc_24 wa (ai wa (ai wa (ai wa (ai (wn rfl rfl) (ai (wn rfl rfl) (ai wa (ai wa (ai (wn rfl rfl) (ai (wn rfl rfl) (ai wa (ai wa (ai (wn rfl rfl) (ai (wn rfl rfl) (ai wa (ae (vB false) wa rfl (ae (vB false) wz rfl (ae (vB true) wz rfl (aj ?_))))))))))))))))))
       obtain rfl:=ah h_16
       exact cu
    ·rintro ⟨⟩ _ sl_ H_ hp_ hq_
     refine aV _ hp_ hq_ ?_
     rcases ak hc_8 with⟨hc_29,hc_8⟩|⟨hc_29,hc_8⟩
     ·refine aA rfl hc_29 (af (aa (ae (vB false) wz rfl (aj ?_))))
      obtain rfl:=ah hc_8
      obtain rfl:=ah hL_9
      obtain rfl:=ah hF
      exact ay (aX (.inr rfl) [(vB false)] ⟨rfl,trivial⟩ rfl rfl rfl)
     ·refine ax rfl hc_29 (av (aa (ae (vI s_7) wz rfl (ae (vI (w64 (s_7+1))) wz rfl (ae (vI (w64 (s_7+1))) wz rfl (aj ?_))))))
      obtain rfl:=ah hc_8
      exact bC (k_2,(w64 (s_7+1))) hL_9 (ls_ _) rfl (aK rfl)
   ·refine ax rfl hc_12 (bE ?_)
    obtain rfl:=ah hc_8
    obtain rfl:=ah hL_9
    exact bN (s_7) rfl rfl (aK rfl)
 ·rintro s_7 ho_ sl_ H_ hp_ hq_
  subst ho_
  refine aV _ hp_ hq_ (af ?_)
  obtain ⟨v_30,h_31,hF⟩:=bind_some hF
  refine aI (β:=Unit) (λ_=>([(2,(vB v_30))]:SL_)) (λ_=>([]:Hp)) (λ_=>True) ?_ ?_
  ·refine aa (ae (vS s_1) wz rfl (ae (vB (sNe s_1 (⟨#[]⟩:ByteArray))) wz rfl ?_))
   rcases ak h_31 with⟨hc_32,h_31⟩|⟨hc_32,h_31⟩
   ·refine aC rfl hc_32 wz (ae (vS s_1) wa rfl (nk un9 rfl wa (ae (vB (decide ((s_1.size:Int)<=40))) wa rfl (ae (vB (decide ((s_1.size:Int)<=40))) wz rfl (ae (vB (decide ((s_1.size:Int)<=40))) wz rfl (aj ?_))))))
    obtain rfl:=ah h_31
    exact cu
   ·refine aC rfl hc_32 wz (ai wa (ai wa (ai wa (ae (vB false) wz rfl (ae (vB false) wz rfl (aj ?_))))))
    obtain rfl:=ah h_31
    exact cu
  ·rintro ⟨⟩ _ sl_ H_ hp_ hq_
   refine aV _ hp_ hq_ ?_
   obtain rfl:=ah hF
   exact ay (aX (.inr rfl) [(vB v_30)] ⟨rfl,trivial⟩ rfl rfl rfl)
theorem fe {n_1:Int} {low_2:Int} {high_3:Int} {r:Bool} (hF:bW n_1 low_2 high_3=some r) :
  FnM Tryz.prog 88 [(vI n_1),(vI low_2),(vI high_3)] [] (vB r) []:=by
 refine FnM.of_wH ⟨Tryz.prog,15,[],[]⟩ rfl Tryz.func88 rfl rfl (lb_ rfl) (by kernel_rfl) ?_
 unfold bW at hF
 refine af (aa (ae (vB false) wz rfl (aj (af ?_))))
 obtain ⟨v_4,h_5,hF⟩:=bind_some hF
 refine aI (β:=Unit) (λ_=>([(6,(vB v_4))]:SL_)) (λ_=>([]:Hp)) (λ_=>True) ?_ ?_
 ·refine aa (ae (vI n_1) wz rfl (ae (vI low_2) wz rfl (ae (vB (decide (n_1<low_2))) wz rfl ?_)))
  rcases ak h_5 with⟨hc_6,h_5⟩|⟨hc_6,h_5⟩
  ·refine aC rfl hc_6 wz (ai wa (ai wa (ai wa (ae (vB true) wz rfl (ae (vB true) wz rfl (aj ?_))))))
   obtain rfl:=ah h_5
   exact cu
  ·refine aC rfl hc_6 wz (ae (vI n_1) wa rfl (ae (vI high_3) wa rfl (ae (vB (decide (n_1>high_3))) wa rfl (ae (vB (decide (n_1>high_3))) wz rfl (ae (vB (decide (n_1>high_3))) wz rfl (aj ?_))))))
   obtain rfl:=ah h_5
   exact cu
 ·rintro ⟨⟩ _ sl_ H_ hp_ hq_
  refine aV _ hp_ hq_ ?_
  obtain rfl:=ah hF
  exact ay (aX (.inr rfl) [(vB v_4)] ⟨rfl,trivial⟩ rfl rfl rfl)
theorem tZ {a_1:Alert} {r:Int} (hF:gG a_1=some r) :
  FnM Tryz.prog 89 [(.d (.agg (Alert.enc a_1)))] [] (vI r) []:=by
 refine FnM.of_wH ⟨Tryz.prog,48,[],[]⟩ rfl Tryz.func89 rfl rfl (lb_ rfl) (by kernel_rfl) ?_
 unfold gG at hF
 refine af (aa (jN 0 (.inl rfl) [(vS a_1.Id),(vS a_1.Sender),(vI a_1.Kind),(vL eS a_1.Refs),(vI a_1.At),(vI a_1.Until),(vI a_1.Weight),(vL Rect.enc a_1.Areas),(vS a_1.Text)] rfl rfl wz (λn_2=>ae (vI 0) wz rfl (aj (af (af (aa (aF jB rfl 3 rfl wz (aD 0 0 il ft qO uq rfl rfl (vL eS a_1.Refs) rfl wz (dA sP rfl wz (ae (vB (decide ((a_1.Refs.length:Int)>20))) wz rfl (aj ?_))))))))))))
 rcases ak hF with⟨hc_3,hF⟩|⟨hc_3,hF⟩
 ·refine aA rfl hc_3 (af (aa (ae (vI 2) wz rfl (aj ?_))))
  obtain rfl:=ah hF
  exact ay (aX (.inr rfl) [(vI 2)] ⟨rfl,trivial⟩ rfl rfl rfl)
 ·refine ax rfl hc_3 (av (af (af (aa (aF jB rfl 3 rfl wz (aD 0 0 il ft qO uq rfl rfl (vL eS a_1.Refs) rfl wz (dA sP rfl wz (ae (vI 0) wz rfl (aj ?_)))))))))
  obtain ⟨o_12,hj_13,hF⟩:=bind_some hF
  obtain ⟨hn_8,hj_13⟩:=bv hj_13
  refine aI (β:=(Unit)) (λ(s_9:Unit)=>([(1,(.ref n_2 0 0))]:SL_)) (λ(s_9:Unit)=>([(n_2,some (.cells 9 [(vS a_1.Id),(vS a_1.Sender),(vI a_1.Kind),(vL eS a_1.Refs),(vI a_1.At),(vI a_1.Until),(vI a_1.Weight),(vL Rect.enc a_1.Areas),(vS a_1.Text)]))]:Hp)) (λp=>o_12 = .go p) ?_ ?_
  ·refine aB (bn (β:=Nat×(List ByteArray)×(Unit)) (λp=>(λ(k_4:Nat) (l_5:List ByteArray) (s_9:Unit)=>([(1,(.ref n_2 0 0)),(10,(vL eS a_1.Refs)),(11,(vI (a_1.Refs.length:Int))),(12,(vI (k_4:Int)))]:SL_)) p.1 p.2.1 p.2.2) (λp=>(λ(k_4:Nat) (l_5:List ByteArray) (s_9:Unit)=>([(n_2,some (.cells 9 [(vS a_1.Id),(vS a_1.Sender),(vI a_1.Kind),(vL eS a_1.Refs),(vI a_1.At),(vI a_1.Until),(vI a_1.Weight),(vL Rect.enc a_1.Areas),(vS a_1.Text)]))]:Hp)) p.1 p.2.1 p.2.2) (λp=>forR (λk x s=>dP a_1 k x s) p.2.1 p.1 p.2.2=some o_12/\(a_1.Refs).drop p.1=p.2.1) (λp=>p.2.1.length) (0,a_1.Refs,()) ⟨hj_13,rfl⟩ rfl (aK rfl) ?_)
   rintro ⟨k_4,l_5,s_9⟩ ⟨hL_11,hD_7⟩
   dsimp only at hL_11 hD_7
   cases l_5 with
   | nil =>
    obtain rfl:=ah hL_11
    refine af (aa (ae (vB (decide ((k_4:Int)<(a_1.Refs.length:Int)))) wz rfl (aj ?_)))
    refine af (ax rfl (drop_nil hD_7) (bE ?_))
    exact bN (s_9) rfl rfl (aK rfl)
   | cons x_6 l_5 =>
    obtain ⟨c_,hc_10,hL_11⟩:=bind_some hL_11
    refine af (aa (ae (vB (decide ((k_4:Int)<(a_1.Refs.length:Int)))) wz rfl (aj ?_)))
    refine af (aA rfl (bP hD_7) (av ?_))
    unfold dP at hc_10
    refine af (aB (af (aa (ae (vI (k_4:Int)) wz rfl (jk lW rfl rfl (dB hD_7) rfl wz (fA sz9 ag9 rfl (vS x_6) rfl wz (ae (vI (k_4:Int)) wz rfl (ae (vS x_6) wz rfl (aj (aB (af (aa (ae (vS x_6) wz rfl ?_)))))))))))))
    obtain ⟨r_14,hr_15,hc_10⟩:=bind_some hc_10
    refine aH (nN hr_15) rfl hb87 rfl rfl rfl rfl wz (ae (vB (!r_14)) wz rfl (ae (vB (!r_14)) wz rfl (aj ?_)))
    rcases ak hc_10 with⟨hc_16,hc_10⟩|⟨hc_16,hc_10⟩
    ·refine aA rfl hc_16 (af (aa (ae (vI 5) wz rfl (aj ?_))))
     obtain rfl:=ah hc_10
     obtain rfl:=ah hL_11
     obtain rfl:=ah hF
     exact ay (aX (.inr rfl) [(vI 5)] ⟨rfl,trivial⟩ rfl rfl rfl)
    ·refine ax rfl hc_16 (af ?_)
     obtain ⟨v_17,h_18,hc_10⟩:=bind_some hc_10
     refine aI (β:=Unit) (λ_=>([(1,(.ref n_2 0 0)),(4,(vS x_6)),(10,(vL eS a_1.Refs)),(11,(vI (a_1.Refs.length:Int))),(12,(vI (k_4:Int))),(21,(vB v_17))]:SL_)) (λ_=>([(n_2,some (.cells 9 [(vS a_1.Id),(vS a_1.Sender),(vI a_1.Kind),(vL eS a_1.Refs),(vI a_1.At),(vI a_1.Until),(vI a_1.Weight),(vL Rect.enc a_1.Areas),(vS a_1.Text)]))]:Hp)) (λ_=>True) ?_ ?_
     ·refine aa (ae (vI (k_4:Int)) wz rfl (ae (vB (decide ((k_4:Int)>0))) wz rfl ?_))
      rcases ak h_18 with⟨hc_19,h_18⟩|⟨hc_19,h_18⟩
      ·refine aC rfl hc_19 wz (ae (vS x_6) wa rfl (aF jB rfl 3 rfl wa (aD 0 0 il ft qO uq rfl rfl (vL eS a_1.Refs) rfl wa (ae (vI (k_4:Int)) wa rfl (ae (vI (w64 ((k_4:Int)-1))) wa rfl ?_)))))
       obtain ⟨y_20,hy_21,h_18⟩:=bind_some h_18
       refine jk lW rfl rfl hy_21 rfl wa (fA sz9 ag9 rfl (vS y_20) rfl wa (ae (vB (sLe x_6 y_20)) wa rfl (ae (vB (sLe x_6 y_20)) wz rfl (ae (vB (sLe x_6 y_20)) wz rfl (aj ?_)))))
       obtain rfl:=ah h_18
       exact cu
      ·refine aC rfl hc_19 wz (ai wa (ai wa (ai wa (ai wa (ai wa (ai wa (ai wa (ai wa (ae (vB false) wz rfl (ae (vB false) wz rfl (aj ?_)))))))))))
       obtain rfl:=ah h_18
       exact cu
     ·rintro ⟨⟩ _ sl_ H_ hp_ hq_
      refine aV _ hp_ hq_ ?_
      rcases ak hc_10 with⟨hc_22,hc_10⟩|⟨hc_22,hc_10⟩
      ·refine aA rfl hc_22 (af (aa (ae (vI 7) wz rfl (aj ?_))))
       obtain rfl:=ah hc_10
       obtain rfl:=ah hL_11
       obtain rfl:=ah hF
       exact ay (aX (.inr rfl) [(vI 7)] ⟨rfl,trivial⟩ rfl rfl rfl)
      ·refine ax rfl hc_22 (af (aa (ae (vS x_6) wz rfl (aF ic rfl 0 rfl wz (aD 0 0 il ft sz9 ag9 rfl rfl (vS a_1.Id) rfl wz (ae (vB (sEq x_6 a_1.Id)) wz rfl (ae (vB (sEq x_6 a_1.Id)) wz rfl (aj ?_))))))))
       rcases ak hc_10 with⟨hc_23,hc_10⟩|⟨hc_23,hc_10⟩
       ·refine aA rfl hc_23 (af (aa (ae (vI 14) wz rfl (aj ?_))))
        obtain rfl:=ah hc_10
        obtain rfl:=ah hL_11
        obtain rfl:=ah hF
        exact ay (aX (.inr rfl) [(vI 14)] ⟨rfl,trivial⟩ rfl rfl rfl)
       ·refine ax rfl hc_23 (av (aa (gN (bU hD_7 hn_8) wz rfl (ae (vI ((k_4+1:Nat):Int)) wz rfl (aj ?_)))))
        obtain rfl:=ah hc_10
        exact bC (k_4+1,l_5,()) ⟨hL_11,aY hD_7⟩ (ls_ _) rfl (aK rfl)
  ·rintro s_9 ho_ sl_ H_ hp_ hq_
   subst ho_
   refine aV _ hp_ hq_ (af (af (aa (aF l5 rfl 2 rfl wz (aD 0 0 il ft sz3 ag3 rfl rfl (vI a_1.Kind) rfl wz (ae (vB (a_1.Kind==1)) wz rfl (aF jB rfl 3 rfl wz (aD 0 0 il ft qO uq rfl rfl (vL eS a_1.Refs) rfl wz (dA sP rfl wz (ae (vB ((a_1.Refs.length:Int)==0)) wz rfl (Bt un4 rfl rfl wz (aj ?_))))))))))))
   rcases ak hF with⟨hc_24,hF⟩|⟨hc_24,hF⟩
   ·refine aA rfl hc_24 (af (aa (ae (vI 3) wz rfl (aj ?_))))
    obtain rfl:=ah hF
    exact ay (aX (.inr rfl) [(vI 3)] ⟨rfl,trivial⟩ rfl rfl rfl)
   ·refine ax rfl hc_24 (av (af (aa (ae (vI 0) wz rfl (aj ?_)))))
    obtain rfl:=ah hF
    exact ay (aX (.inr rfl) [(vI 0)] ⟨rfl,trivial⟩ rfl rfl rfl)
theorem xL {n_1:Int} {r:Bool} (hF:kg n_1=some r) :
  FnM Tryz.prog 90 [(vI n_1)] [] (vB r) []:=by
 refine FnM.of_wH ⟨Tryz.prog,9,[],[]⟩ rfl Tryz.func90 rfl rfl (lb_ rfl) (by kernel_rfl) ?_
 unfold kg at hF
 refine af (aa (ae (vB false) wz rfl (aj (af ?_))))
 obtain ⟨v_2,h_3,hF⟩:=bind_some hF
 refine aI (β:=Unit) (λ_=>([(2,(vB v_2))]:SL_)) (λ_=>([]:Hp)) (λ_=>True) ?_ ?_
 ·refine aa (ae (vI n_1) wz rfl (ae (vB (decide (n_1>=0))) wz rfl ?_))
  rcases ak h_3 with⟨hc_4,h_3⟩|⟨hc_4,h_3⟩
  ·refine aC rfl hc_4 wz (ae (vI n_1) wa rfl (ae (vB (decide (n_1<345686400000))) wa rfl (ae (vB (decide (n_1<345686400000))) wz rfl (ae (vB (decide (n_1<345686400000))) wz rfl (aj ?_)))))
   obtain rfl:=ah h_3
   exact cu
  ·refine aC rfl hc_4 wz (ai wa (ai wa (ae (vB false) wz rfl (ae (vB false) wz rfl (aj ?_)))))
   obtain rfl:=ah h_3
   exact cu
 ·rintro ⟨⟩ _ sl_ H_ hp_ hq_
  refine aV _ hp_ hq_ ?_
  obtain rfl:=ah hF
  exact ay (aX (.inr rfl) [(vB v_2)] ⟨rfl,trivial⟩ rfl rfl rfl)
theorem sM {r_1:Rect} {r:Int} (hF:iO r_1=some r) :
  FnM Tryz.prog 91 [(.d (.agg (Rect.enc r_1)))] [] (vI r) []:=by
 refine FnM.of_wH ⟨Tryz.prog,25,[],[]⟩ rfl Tryz.func91 rfl rfl (lb_ rfl) (by kernel_rfl) ?_
 unfold iO at hF
 refine af (aa (jN 0 (.inl rfl) [(vI r_1.X),(vI r_1.Y),(vI r_1.W),(vI r_1.H)] rfl rfl wz (λn_2=>ae (vI 0) wz rfl (aj (af (af ?_))))))
 obtain ⟨v_3,h_4,hF⟩:=bind_some hF
 refine aI (β:=Unit) (λ_=>([(1,(.ref n_2 0 0)),(10,(vB v_3))]:SL_)) (λ_=>([(n_2,some (.cells 4 [(vI r_1.X),(vI r_1.Y),(vI r_1.W),(vI r_1.H)]))]:Hp)) (λ_=>True) ?_ ?_
 ·refine aa (aF rR rfl 0 rfl wz (aD 0 0 il ft sz3 ag3 rfl rfl (vI r_1.X) rfl wz ?_))
  obtain ⟨r_5,hr_6,h_4⟩:=bind_some h_4
  refine aH (fe hr_6) rfl BF rfl rfl rfl rfl wz ?_
  rcases ak h_4 with⟨hc_7,h_4⟩|⟨hc_7,h_4⟩
  ·refine aC rfl hc_7 wz (ai wa (ai wa (ai wa (ae (vB true) wz rfl (aj ?_)))))
   obtain rfl:=ah h_4
   exact cu
  ·refine aC rfl hc_7 wz (aF rC rfl 1 rfl wa (aD 0 0 il ft sz3 ag3 rfl rfl (vI r_1.Y) rfl wa ?_))
   obtain ⟨r_8,hr_9,h_4⟩:=bind_some h_4
   refine aH (fe hr_9) rfl BF rfl rfl rfl rfl wa (ae (vB r_8) wz rfl (aj ?_))
   obtain rfl:=ah h_4
   exact cu
 ·rintro ⟨⟩ _ sl_ H_ hp_ hq_
  refine aV _ hp_ hq_ ?_
  rcases ak hF with⟨hc_10,hF⟩|⟨hc_10,hF⟩
  ·refine aA rfl hc_10 (af (aa (ae (vI 1) wz rfl (aj ?_))))
   obtain rfl:=ah hF
   exact ay (aX (.inr rfl) [(vI 1)] ⟨rfl,trivial⟩ rfl rfl rfl)
  ·refine ax rfl hc_10 (av (af (af ?_)))
   obtain ⟨v_11,h_12,hF⟩:=bind_some hF
   refine aI (β:=Unit) (λ_=>([(24,(vB v_11))]:SL_)) (λ_=>([(n_2,some (.cells 4 [(vI r_1.X),(vI r_1.Y),(vI r_1.W),(vI r_1.H)]))]:Hp)) (λ_=>True) ?_ ?_
   ·refine aa (aF yY rfl 2 rfl wz (aD 0 0 il ft sz3 ag3 rfl rfl (vI r_1.W) rfl wz (aF rR rfl 0 rfl wz (aD 0 0 il ft sz3 ag3 rfl rfl (vI r_1.X) rfl wz (ae (vI (w64 (100000-r_1.X))) wz rfl ?_)))))
    obtain ⟨r_13,hr_14,h_12⟩:=bind_some h_12
    refine aH (fe hr_14) rfl BF rfl rfl rfl rfl wz ?_
    rcases ak h_12 with⟨hc_15,h_12⟩|⟨hc_15,h_12⟩
    ·refine aC rfl hc_15 wz (ai wa (ai wa (ai wa (ai wa (ai wa (ai wa (ae (vB true) wz rfl (aj ?_))))))))
     obtain rfl:=ah h_12
     exact cu
    ·refine aC rfl hc_15 wz (aF wo rfl 3 rfl wa (aD 0 0 il ft sz3 ag3 rfl rfl (vI r_1.H) rfl wa (aF rC rfl 1 rfl wa (aD 0 0 il ft sz3 ag3 rfl rfl (vI r_1.Y) rfl wa (ae (vI (w64 (100000-r_1.Y))) wa rfl ?_)))))
     obtain ⟨r_16,hr_17,h_12⟩:=bind_some h_12
     refine aH (fe hr_17) rfl BF rfl rfl rfl rfl wa (ae (vB r_16) wz rfl (aj ?_))
     obtain rfl:=ah h_12
     exact cu
   ·rintro ⟨⟩ _ sl_ H_ hp_ hq_
    refine aV _ hp_ hq_ ?_
    rcases ak hF with⟨hc_18,hF⟩|⟨hc_18,hF⟩
    ·refine aA rfl hc_18 (af (aa (ae (vI 1) wz rfl (aj ?_))))
     obtain rfl:=ah hF
     exact ay (aX (.inr rfl) [(vI 1)] ⟨rfl,trivial⟩ rfl rfl rfl)
    ·refine ax rfl hc_18 (av (af (aa (ae (vI 0) wz rfl (aj ?_)))))
     obtain rfl:=ah hF
     exact ay (aX (.inr rfl) [(vI 0)] ⟨rfl,trivial⟩ rfl rfl rfl)
theorem jI {x0:ByteArray} {r:Bool} (hF:eP x0=some r) :
  FnM Tryz.prog 125 [(vS x0)] [] (vB r) [] :=
 Ir rfl Tryz.utf8_ValidString G8 hF
theorem pE {s_1:ByteArray} {c_2:Int} {r:ByteArray} (hF:strings_trimRightByte s_1 c_2=some r) :
  FnM Tryz.prog 168 [(vS s_1),(.d (.int .u8 c_2))] [] (vS r) []:=by
 refine FnM.of_wH ⟨Tryz.prog,23,[],[]⟩ rfl Tryz.func168 rfl rfl (lb_ rfl) (by kernel_rfl) ?_
 unfold strings_trimRightByte at hF
 refine af (aa (ae (vS (⟨#[]⟩:ByteArray)) wz rfl (aj (af ?_))))
 obtain ⟨o_11,hj_12,hF⟩:=bind_some hF
 obtain ⟨nq_21,hj_12⟩:=fE hj_12
 refine aI (β:=(ByteArray)) (λ(s_8:ByteArray)=>([(0,(vS s_8))]:SL_)) (λ(s_8:ByteArray)=>([]:Hp)) (λp=>o_11 = .go p) ?_ ?_
 ·refine aB (bn (β:=Nat×(ByteArray)) (λp=>(λ(k_3:Nat) (s_8:ByteArray)=>([(0,(vS s_8)),(1,(.d (.int .u8 c_2)))]:SL_)) p.1 p.2) (λp=>(λ(k_3:Nat) (s_8:ByteArray)=>([]:Hp)) p.1 p.2) (λp=>iterN (λs=>fM c_2 s) p.1 p.2=some o_11) (λp=>p.1) (nq_21,s_1) hj_12 rfl (aK rfl) ?_)
  rintro ⟨k_3,s_8⟩ hL_10
  dsimp only at hL_10
  cases k_3 with
  | zero=>cases hL_10
  | succ k_3 =>
   obtain ⟨c_,hc_9,hL_10⟩:=bind_some hL_10
   unfold fM at hc_9
   refine af (af ?_)
   obtain ⟨v_13,h_14,hc_9⟩:=bind_some hc_9
   refine aI (β:=Unit) (λ_=>([(0,(vS s_8)),(1,(.d (.int .u8 c_2))),(16,(vB v_13))]:SL_)) (λ_=>([]:Hp)) (λ_=>True) ?_ ?_
   ·refine aa (ae (vS s_8) wz rfl (nk un9 rfl wz (ae (vB (decide ((s_8.size:Int)>0))) wz rfl ?_)))
    rcases ak h_14 with⟨hc_15,h_14⟩|⟨hc_15,h_14⟩
    ·refine aC rfl hc_15 wz (ae (vS s_8) wa rfl (ae (vS s_8) wa rfl (nk un9 rfl wa (ae (vI (w64 ((s_8.size:Int)-1))) wa rfl ?_))))
     obtain ⟨b_16,hy_17,h_14⟩:=bind_some h_14
     refine o9 un9 rfl rfl hy_17 wa (ae (.d (.int .u8 c_2)) wa rfl (ae (vB ((b_16.toNat:Int)==c_2)) wa rfl (ae (vB ((b_16.toNat:Int)==c_2)) wz rfl (aj ?_))))
     obtain rfl:=ah h_14
     exact cu
    ·refine aC rfl hc_15 wz (ai wa (ai wa (ai wa (ai wa (ai wa (ai wa (ai wa (ae (vB false) wz rfl (aj ?_)))))))))
     obtain rfl:=ah h_14
     exact cu
   ·rintro ⟨⟩ _ sl_ H_ hp_ hq_
    refine aV _ hp_ hq_ ?_
    rcases ak hc_9 with⟨hc_18,hc_9⟩|⟨hc_18,hc_9⟩
    ·refine aA rfl hc_18 (av (aB (aa (ae (vS s_8) wz rfl (ae (vS s_8) wz rfl (nk un9 rfl wz (ae (vI (w64 ((s_8.size:Int)-1))) wz rfl ?_)))))))
     obtain ⟨y_19,hy_20,hc_9⟩:=bind_some hc_9
     refine rA un9 rfl rfl hy_20 wz (ae (vS y_19) wz rfl (aj ?_))
     obtain rfl:=ah hc_9
     exact bC (k_3,y_19) hL_10 (ls_ _) rfl (aK rfl)
    ·refine ax rfl hc_18 (bE ?_)
     obtain rfl:=ah hc_9
     obtain rfl:=ah hL_10
     exact bN (s_8) rfl rfl (aK rfl)
 ·rintro s_8 ho_ sl_ H_ hp_ hq_
  subst ho_
  refine aV _ hp_ hq_ (af (aa (ae (vS s_8) wz rfl (ae (vS s_8) wz rfl (aj ?_)))))
  obtain rfl:=ah hF
  exact ay (aX (.inr rfl) [(vS s_8)] ⟨rfl,trivial⟩ rfl rfl rfl)
theorem pY {s_1:ByteArray} {c_2:Int} {r:ByteArray} (hF:strings_trimLeftByte s_1 c_2=some r) :
  FnM Tryz.prog 167 [(vS s_1),(.d (.int .u8 c_2))] [] (vS r) []:=by
 refine FnM.of_wH ⟨Tryz.prog,17,[],[]⟩ rfl Tryz.func167 rfl rfl (lb_ rfl) (by kernel_rfl) ?_
 unfold strings_trimLeftByte at hF
 refine af (aa (ae (vS (⟨#[]⟩:ByteArray)) wz rfl (aj (af ?_))))
 obtain ⟨o_11,hj_12,hF⟩:=bind_some hF
 obtain ⟨nq_21,hj_12⟩:=fE hj_12
 refine aI (β:=(ByteArray)) (λ(s_8:ByteArray)=>([(0,(vS s_8))]:SL_)) (λ(s_8:ByteArray)=>([]:Hp)) (λp=>o_11 = .go p) ?_ ?_
 ·refine aB (bn (β:=Nat×(ByteArray)) (λp=>(λ(k_3:Nat) (s_8:ByteArray)=>([(0,(vS s_8)),(1,(.d (.int .u8 c_2)))]:SL_)) p.1 p.2) (λp=>(λ(k_3:Nat) (s_8:ByteArray)=>([]:Hp)) p.1 p.2) (λp=>iterN (λs=>gm c_2 s) p.1 p.2=some o_11) (λp=>p.1) (nq_21,s_1) hj_12 rfl (aK rfl) ?_)
  rintro ⟨k_3,s_8⟩ hL_10
  dsimp only at hL_10
  cases k_3 with
  | zero=>cases hL_10
  | succ k_3 =>
   obtain ⟨c_,hc_9,hL_10⟩:=bind_some hL_10
   unfold gm at hc_9
   refine af (af ?_)
   obtain ⟨v_13,h_14,hc_9⟩:=bind_some hc_9
   refine aI (β:=Unit) (λ_=>([(0,(vS s_8)),(1,(.d (.int .u8 c_2))),(13,(vB v_13))]:SL_)) (λ_=>([]:Hp)) (λ_=>True) ?_ ?_
   ·refine aa (ae (vS s_8) wz rfl (nk un9 rfl wz (ae (vB (decide ((s_8.size:Int)>0))) wz rfl ?_)))
    rcases ak h_14 with⟨hc_15,h_14⟩|⟨hc_15,h_14⟩
    ·refine aC rfl hc_15 wz (ae (vS s_8) wa rfl ?_)
     obtain ⟨b_16,hy_17,h_14⟩:=bind_some h_14
     refine o9 un9 rfl rfl hy_17 wa (ae (.d (.int .u8 c_2)) wa rfl (ae (vB ((b_16.toNat:Int)==c_2)) wa rfl (ae (vB ((b_16.toNat:Int)==c_2)) wz rfl (aj ?_))))
     obtain rfl:=ah h_14
     exact cu
    ·refine aC rfl hc_15 wz (ai wa (ai wa (ai wa (ai wa (ae (vB false) wz rfl (aj ?_))))))
     obtain rfl:=ah h_14
     exact cu
   ·rintro ⟨⟩ _ sl_ H_ hp_ hq_
    refine aV _ hp_ hq_ ?_
    rcases ak hc_9 with⟨hc_18,hc_9⟩|⟨hc_18,hc_9⟩
    ·refine aA rfl hc_18 (av (aB (aa (ae (vS s_8) wz rfl ?_))))
     obtain ⟨y_19,hy_20,hc_9⟩:=bind_some hc_9
     refine yF un9 rfl rfl hy_20 wz (ae (vS y_19) wz rfl (aj ?_))
     obtain rfl:=ah hc_9
     exact bC (k_3,y_19) hL_10 (ls_ _) rfl (aK rfl)
    ·refine ax rfl hc_18 (bE ?_)
     obtain rfl:=ah hc_9
     obtain rfl:=ah hL_10
     exact bN (s_8) rfl rfl (aK rfl)
 ·rintro s_8 ho_ sl_ H_ hp_ hq_
  subst ho_
  refine aV _ hp_ hq_ (af (aa (ae (vS s_8) wz rfl (ae (vS s_8) wz rfl (aj ?_)))))
  obtain rfl:=ah hF
  exact ay (aX (.inr rfl) [(vS s_8)] ⟨rfl,trivial⟩ rfl rfl rfl)
theorem qQ {s_1:ByteArray} {cutset_2:ByteArray} {r:ByteArray} (hF:kw s_1 cutset_2=some r) :
  FnM Tryz.prog 128 [(vS s_1),(vS cutset_2)] [] (vS r) []:=by
 refine FnM.of_wH ⟨Tryz.prog,43,[],[]⟩ rfl Tryz.func128 rfl rfl (lb_ rfl) (by kernel_rfl) ?_
 unfold kw at hF
 refine af (aa (ae (vS (⟨#[]⟩:ByteArray)) wz rfl (aj (af (af ?_)))))
 obtain ⟨v_3,h_4,hF⟩:=bind_some hF
 refine aI (β:=Unit) (λ_=>([(0,(vS s_1)),(1,(vS cutset_2)),(12,(vB v_3))]:SL_)) (λ_=>([]:Hp)) (λ_=>True) ?_ ?_
 ·refine aa (ae (vS s_1) wz rfl (ae (vB (sEq s_1 (⟨#[]⟩:ByteArray))) wz rfl ?_))
  rcases ak h_4 with⟨hc_5,h_4⟩|⟨hc_5,h_4⟩
  ·refine aC rfl hc_5 wz (ai wa (ai wa (ae (vB true) wz rfl (aj ?_))))
   obtain rfl:=ah h_4
   exact cu
  ·refine aC rfl hc_5 wz (ae (vS cutset_2) wa rfl (ae (vB (sEq cutset_2 (⟨#[]⟩:ByteArray))) wa rfl (ae (vB (sEq cutset_2 (⟨#[]⟩:ByteArray))) wz rfl (aj ?_))))
   obtain rfl:=ah h_4
   exact cu
 ·rintro ⟨⟩ _ sl_ H_ hp_ hq_
  refine aV _ hp_ hq_ ?_
  rcases ak hF with⟨hc_6,hF⟩|⟨hc_6,hF⟩
  ·refine aA rfl hc_6 (af (aa (ae (vS s_1) wz rfl (ae (vS s_1) wz rfl (aj ?_)))))
   obtain rfl:=ah hF
   exact ay (aX (.inr rfl) [(vS s_1)] ⟨rfl,trivial⟩ rfl rfl rfl)
  ·refine ax rfl hc_6 (av (af (af ?_)))
   obtain ⟨v_7,h_8,hF⟩:=bind_some hF
   refine aI (β:=Unit) (λ_=>([(0,(vS s_1)),(1,(vS cutset_2)),(21,(vB v_7))]:SL_)) (λ_=>([]:Hp)) (λ_=>True) ?_ ?_
   ·refine aa (ae (vS cutset_2) wz rfl (nk un9 rfl wz (ae (vB ((cutset_2.size:Int)==1)) wz rfl ?_)))
    rcases ak h_8 with⟨hc_9,h_8⟩|⟨hc_9,h_8⟩
    ·refine aC rfl hc_9 wz (ae (vS cutset_2) wa rfl ?_)
     obtain ⟨b_10,hy_11,h_8⟩:=bind_some h_8
     refine o9 un9 rfl rfl hy_11 wa (ae (vB (decide ((b_10.toNat:Int)<128))) wa rfl (ae (vB (decide ((b_10.toNat:Int)<128))) wz rfl (aj ?_)))
     obtain rfl:=ah h_8
     exact cu
    ·refine aC rfl hc_9 wz (ai wa (ai wa (ai wa (ae (vB false) wz rfl (aj ?_)))))
     obtain rfl:=ah h_8
     exact cu
   ·rintro ⟨⟩ _ sl_ H_ hp_ hq_
    refine aV _ hp_ hq_ ?_
    rcases ak hF with⟨hc_12,hF⟩|⟨hc_12,hF⟩
    ·refine aA rfl hc_12 (af (eu (ae (vS s_1) wz rfl (ae (vS cutset_2) wz rfl ?_))))
     obtain ⟨b_13,hy_14,hF⟩:=bind_some hF
     refine o9 un9 rfl rfl hy_14 wz ?_
     obtain ⟨r_15,hr_16,hF⟩:=bind_some hF
     refine aH (pE hr_16) rfl hb168 rfl rfl rfl rfl wz (ae (vS cutset_2) wz rfl ?_)
     obtain ⟨b_17,hy_18,hF⟩:=bind_some hF
     refine o9 un9 rfl rfl hy_18 wz ?_
     obtain ⟨r_19,hr_20,hF⟩:=bind_some hF
     refine aH (pY hr_20) rfl hb167 rfl rfl rfl rfl wz (ae (vS r_19) wz rfl (aj ?_))
     obtain rfl:=ah hF
     exact ay (aX (.inr rfl) [(vS r_19)] ⟨rfl,trivial⟩ rfl rfl rfl)
    ·refine ax rfl hc_12 (av (af (af (aa (ae (vS cutset_2) wz rfl ?_)))))
     cases hF
theorem nH {x0:ByteArray} {x1:ByteArray} {r:Bool} (hF:strings_Contains x0 x1=some r) :
  FnM Tryz.prog 129 [(vS x0),(vS x1)] [] (vB r) [] :=
 Dv Tryz.strings_Contains DJ hF
theorem yQ {s_1:ByteArray} {r:Bool} (hF:jZ s_1=some r) :
  FnM Tryz.prog 92 [(vS s_1)] [] (vB r) []:=by
 refine FnM.of_wH ⟨Tryz.prog,33,[],[]⟩ rfl Tryz.func92 rfl rfl (lb_ rfl) (by kernel_rfl) ?_
 unfold jZ at hF
 refine af (aa (ae (vB false) wz rfl (aj (af (af (aa (ae (vI 0) wz rfl (aj ?_))))))))
 obtain ⟨o_10,hj_11,hF⟩:=bind_some hF
 obtain ⟨nq_31,hj_11⟩:=fE hj_11
 refine aI (β:=(Int)) (λ(s_7:Int)=>([(0,(vS s_1))]:SL_)) (λ(s_7:Int)=>([]:Hp)) (λp=>o_10 = .go p) ?_ ?_
 ·refine aB (bn (β:=Nat×(Int)) (λp=>(λ(k_2:Nat) (s_7:Int)=>([(0,(vS s_1)),(3,(vI s_7))]:SL_)) p.1 p.2) (λp=>(λ(k_2:Nat) (s_7:Int)=>([]:Hp)) p.1 p.2) (λp=>iterN (λs=>lH s_1 s) p.1 p.2=some o_10) (λp=>p.1) (nq_31,0) hj_11 rfl (aK rfl) ?_)
  rintro ⟨k_2,s_7⟩ hL_9
  dsimp only at hL_9
  cases k_2 with
  | zero=>cases hL_9
  | succ k_2 =>
   obtain ⟨c_,hc_8,hL_9⟩:=bind_some hL_9
   unfold lH at hc_8
   refine af (af (aa (ae (vI s_7) wz rfl (ae (vS s_1) wz rfl (nk un9 rfl wz (ae (vB (decide (s_7<(s_1.size:Int)))) wz rfl (aj ?_)))))))
   rcases ak hc_8 with⟨hc_12,hc_8⟩|⟨hc_12,hc_8⟩
   ·refine aA rfl hc_12 (av (af (aB (af ?_))))
    obtain ⟨v_13,h_14,hc_8⟩:=bind_some hc_8
    refine aI (β:=Unit) (λ_=>([(0,(vS s_1)),(3,(vI s_7)),(19,(vB v_13))]:SL_)) (λ_=>([]:Hp)) (λ_=>True) ?_ ?_
    ·refine aa (ae (vS s_1) wz rfl (ae (vI s_7) wz rfl ?_))
     obtain ⟨b_15,hy_16,h_14⟩:=bind_some h_14
     refine o9 un9 rfl rfl hy_16 wz (ae (vB (decide ((b_15.toNat:Int)<32))) wz rfl ?_)
     rcases ak h_14 with⟨hc_17,h_14⟩|⟨hc_17,h_14⟩
     ·refine aC rfl hc_17 wz (ai wa (ai wa (ai wa (ai wa (ae (vB true) wz rfl (aj ?_))))))
      obtain rfl:=ah h_14
      exact cu
     ·refine aC rfl hc_17 wz (ae (vS s_1) wa rfl (ae (vI s_7) wa rfl ?_))
      obtain ⟨b_18,hy_19,h_14⟩:=bind_some h_14
      refine o9 un9 rfl rfl hy_19 wa (ae (vB ((b_18.toNat:Int)==127)) wa rfl (ae (vB ((b_18.toNat:Int)==127)) wz rfl (aj ?_)))
      obtain rfl:=ah h_14
      exact cu
    ·rintro ⟨⟩ _ sl_ H_ hp_ hq_
     refine aV _ hp_ hq_ ?_
     rcases ak hc_8 with⟨hc_20,hc_8⟩|⟨hc_20,hc_8⟩
     ·refine aA rfl hc_20 (af (aa (ae (vB false) wz rfl (aj ?_))))
      obtain rfl:=ah hc_8
      obtain rfl:=ah hL_9
      obtain rfl:=ah hF
      exact ay (aX (.inr rfl) [(vB false)] ⟨rfl,trivial⟩ rfl rfl rfl)
     ·refine ax rfl hc_20 (av (aa (ae (vI s_7) wz rfl (ae (vI (w64 (s_7+1))) wz rfl (ae (vI (w64 (s_7+1))) wz rfl (aj ?_))))))
      obtain rfl:=ah hc_8
      exact bC (k_2,(w64 (s_7+1))) hL_9 (ls_ _) rfl (aK rfl)
   ·refine ax rfl hc_12 (bE ?_)
    obtain rfl:=ah hc_8
    obtain rfl:=ah hL_9
    exact bN (s_7) rfl rfl (aK rfl)
 ·rintro s_7 ho_ sl_ H_ hp_ hq_
  subst ho_
  refine aV _ hp_ hq_ (af ?_)
  obtain ⟨v_21,h_22,hF⟩:=bind_some hF
  refine aI (β:=Unit) (λ_=>([(2,(vB v_21))]:SL_)) (λ_=>([]:Hp)) (λ_=>True) ?_ ?_
  ·refine aa (ae (vS s_1) wz rfl ?_)
   obtain ⟨r_23,hr_24,h_22⟩:=bind_some h_22
   refine aH (jI hr_24) rfl hb125 rfl rfl rfl rfl wz ?_
   rcases ak h_22 with⟨hc_25,h_22⟩|⟨hc_25,h_22⟩
   ·refine aC rfl hc_25 wz (ae (vS s_1) wa rfl ?_)
    obtain ⟨r_26,hr_27,h_22⟩:=bind_some h_22
    refine aH (qQ hr_27) rfl hb128 rfl rfl rfl rfl wa (ae (vS s_1) wa rfl (ae (vB (sEq r_26 s_1)) wa rfl (ae (vB (sEq r_26 s_1)) wz rfl ?_)))
    rcases ak h_22 with⟨hc_28,h_22⟩|⟨hc_28,h_22⟩
    ·refine aC rfl hc_28 wz (ae (vS s_1) wa rfl ?_)
     obtain ⟨r_29,hr_30,h_22⟩:=bind_some h_22
     refine aH (nH hr_30) rfl hb129 rfl rfl rfl rfl wa (ae (vB (!r_29)) wa rfl (ae (vB (!r_29)) wz rfl (ae (vB (!r_29)) wz rfl (aj ?_))))
     obtain rfl:=ah h_22
     exact cu
    ·refine aC rfl hc_28 wz (ai wa (ai wa (ai wa (ae (vB false) wz rfl (ae (vB false) wz rfl (aj ?_))))))
     obtain rfl:=ah h_22
     exact cu
   ·refine aC rfl hc_25 wz (ai wa (ai wa (ai wa (ai wa (ae (vB false) wz rfl (ae (vB false) wz rfl (ai wa (ai wa (ai wa (ae (vB false) wz rfl (ae (vB false) wz rfl (aj ?_))))))))))))
    obtain rfl:=ah h_22
    exact cu
  ·rintro ⟨⟩ _ sl_ H_ hp_ hq_
   refine aV _ hp_ hq_ ?_
   obtain rfl:=ah hF
   exact ay (aX (.inr rfl) [(vB v_21)] ⟨rfl,trivial⟩ rfl rfl rfl)
end Go.Proofs.YtpmokglbipebcaaGreatDoor.Law

