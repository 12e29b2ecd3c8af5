/-
 The machine computes these plain functions (written by a program of ours).
-/
import Derived.Test.YtjhcehhmdmbleaaGreatDoorFacts
import Derived.Test.YtjhcehhmdmbleaaGreatDoorDefs
import Derived.Test.YtjhcehhmdmbleaaGreatDoorPf1
import Derived.Test.YtjhcehhmdmbleaaGreatDoorShelf
open Go Go.Eng Go.Proofs
namespace Go.Proofs.YtjhcehhmdmbleaaGreatDoor.Law
set_option maxRecDepth 100000
set_option linter.unusedVariables false
set_option maxHeartbeats 1000000
theorem wu {s_1:Stream} {r:Rect×Stream} (hF:kP s_1=some r) :
  FnM Tryz.prog 160 [(.ref (au 0) 0 0)] [(.cells 2 [(vL eI s_1.L),(vI s_1.f_at)])] (.d (.agg (Rect.enc r.1))) [some (.cells 2 [(vL eI r.2.L),(vI r.2.f_at)])]:=by
 refine FnM.of_wH ⟨Tryz.prog,32,[],[]⟩ rfl Tryz.func160 rfl rfl (Nat.le_of_ble_eq_true rfl) (by kernel_rfl) ?_
 unfold kP at hF
 refine af (aa (fH 0 (.inl rfl) z45 rfl wz (fun n_2=>ai (af (aa (ae (.ref (au 0) 0 0) wz rfl ?_))))))
 obtain ⟨r_3,hr_4,hF⟩:=bind_some hF
 refine aM 0 [0] il ft (jE hr_4) rfl hb97 rfl (by kernel_rfl) (by kernel_rfl) (by kernel_rfl) (by kernel_rfl) (by kernel_rfl) (by kernel_rfl) (by kernel_rfl) (by decide) (by kernel_rfl) wz (.d (.agg (Rect.enc r_3.1))) (by kernel_rfl) ([((au 0),some (.cells 2 [(vL eI r_3.2.L),(vI r_3.2.f_at)])),(n_2,some (.cells 4 [(vI 0),(vI 0),(vI 0),(vI 0)]))]:Hp) (by kernel_rfl) (fH 0 (.inl rfl) z45 rfl wz (fun n_6=>gu 0 il ft 2 rz rfl rfl [(vI r_3.1.X),(vI r_3.1.Y),(vI r_3.1.W),(vI r_3.1.H)] rfl wz (ai (af (af (aa (ae (.ref (au 0) 0 0) wz rfl ?_)))))))
 obtain ⟨r_7,hr_8,hF⟩:=bind_some hF
 refine aM 0 [0] il ft (eY hr_8) rfl ES rfl (by kernel_rfl) (by kernel_rfl) (by kernel_rfl) (by kernel_rfl) (by kernel_rfl) (by kernel_rfl) (by kernel_rfl) (by decide) (by kernel_rfl) wz (vB r_7.1) (by kernel_rfl) ([((au 0),some (.cells 2 [(vL eI r_7.2.L),(vI r_7.2.f_at)])),(n_2,some (.cells 4 [(vI 0),(vI 0),(vI 0),(vI 0)])),(n_6,some (.cells 4 [(vI r_3.1.X),(vI r_3.1.Y),(vI r_3.1.W),(vI r_3.1.H)]))]:Hp) (by kernel_rfl) (ai ?_)
 obtain ⟨v_10,h_11,hF⟩:=bind_some hF
 refine aC (β:=Unit) (fun _=>([(2,(.ref n_2 0 0)),(3,(.ref n_6 0 0))]:List (Nat×V))) (fun _=>([((au 0),some (.cells 2 [(vL eI v_10.1),(vI v_10.2.1)])),(n_2,some (.cells 4 [(vI 0),(vI 0),(vI 0),(vI 0)])),(n_6,some (.cells 4 [(vI v_10.2.2.1),(vI v_10.2.2.2.1),(vI v_10.2.2.2.2.1),(vI v_10.2.2.2.2.2)]))]:Hp)) (fun _=>True) ?_ ?_
 ·rcases ak h_11 with⟨hc_12,h_11⟩ | ⟨hc_12,h_11⟩
  ·refine aB rfl hc_12 (af (aa (ae (.ref (au 0) 0 0) wz rfl ?_)))
   obtain ⟨r_13,hr_14,h_11⟩:=bind_some h_11
   refine aM 0 [0] il ft (dU hr_14) rfl CK rfl (by kernel_rfl) (by kernel_rfl) (by kernel_rfl) (by kernel_rfl) (by kernel_rfl) (by kernel_rfl) (by kernel_rfl) (by decide) (by kernel_rfl) wz (vI r_13.1) (by kernel_rfl) ([((au 0),some (.cells 2 [(vL eI r_13.2.L),(vI r_13.2.f_at)])),(n_2,some (.cells 4 [(vI 0),(vI 0),(vI 0),(vI 0)])),(n_6,some (.cells 4 [(vI r_3.1.X),(vI r_3.1.Y),(vI r_3.1.W),(vI r_3.1.H)]))]:Hp) (by kernel_rfl) (ai (aA (af (aa (ae (vB (r_13.1 == 0)) wz rfl (ae (vB (r_13.1 == 0)) wz rfl (ai ?_)))))))
   rcases ak h_11 with⟨hc_16,h_11⟩ | ⟨hc_16,h_11⟩
   ·refine aB rfl hc_16 (aa (ae (.ref (au 0) 0 0) wz rfl ?_))
    obtain ⟨r_17,hr_18,h_11⟩:=bind_some h_11
    refine aM 0 [0] il ft (dL hr_18) rfl Bd rfl (by kernel_rfl) (by kernel_rfl) (by kernel_rfl) (by kernel_rfl) (by kernel_rfl) (by kernel_rfl) (by kernel_rfl) (by decide) (by kernel_rfl) wz (vI r_17.1) (by kernel_rfl) ([((au 0),some (.cells 2 [(vL eI r_17.2.L),(vI r_17.2.f_at)])),(n_2,some (.cells 4 [(vI 0),(vI 0),(vI 0),(vI 0)])),(n_6,some (.cells 4 [(vI r_3.1.X),(vI r_3.1.Y),(vI r_3.1.W),(vI r_3.1.H)]))]:Hp) (by kernel_rfl) (aG qW rfl 0 rfl wz (gu 0 il ft 2 sz3 rfl rfl [(vI r_17.1),(vI r_3.1.Y),(vI r_3.1.W),(vI r_3.1.H)] rfl wz (ai ?_)))
    obtain rfl:=ah h_11
    exact cu
   ·refine ax rfl hc_16 (af (aa (ae (vB (r_13.1 == 1)) wz rfl (ae (vB (r_13.1 == 1)) wz rfl (ai ?_)))))
    rcases ak h_11 with⟨hc_20,h_11⟩ | ⟨hc_20,h_11⟩
    ·refine aB rfl hc_20 (aa (ae (.ref (au 0) 0 0) wz rfl ?_))
     obtain ⟨r_21,hr_22,h_11⟩:=bind_some h_11
     refine aM 0 [0] il ft (dL hr_22) rfl Bd rfl (by kernel_rfl) (by kernel_rfl) (by kernel_rfl) (by kernel_rfl) (by kernel_rfl) (by kernel_rfl) (by kernel_rfl) (by decide) (by kernel_rfl) wz (vI r_21.1) (by kernel_rfl) ([((au 0),some (.cells 2 [(vL eI r_21.2.L),(vI r_21.2.f_at)])),(n_2,some (.cells 4 [(vI 0),(vI 0),(vI 0),(vI 0)])),(n_6,some (.cells 4 [(vI r_3.1.X),(vI r_3.1.Y),(vI r_3.1.W),(vI r_3.1.H)]))]:Hp) (by kernel_rfl) (ae (.ref (au 0) 0 0) wz rfl ?_)
     obtain ⟨r_24,hr_25,h_11⟩:=bind_some h_11
     refine aM 0 [0] il ft (dL hr_25) rfl Bd rfl (by kernel_rfl) (by kernel_rfl) (by kernel_rfl) (by kernel_rfl) (by kernel_rfl) (by kernel_rfl) (by kernel_rfl) (by decide) (by kernel_rfl) wz (vI r_24.1) (by kernel_rfl) ([((au 0),some (.cells 2 [(vL eI r_24.2.L),(vI r_24.2.f_at)])),(n_2,some (.cells 4 [(vI 0),(vI 0),(vI 0),(vI 0)])),(n_6,some (.cells 4 [(vI r_3.1.X),(vI r_3.1.Y),(vI r_3.1.W),(vI r_3.1.H)]))]:Hp) (by kernel_rfl) (aG Ap rfl 2 rfl wz (gu 0 il ft 2 sz3 rfl rfl [(vI r_3.1.X),(vI r_3.1.Y),(vI r_21.1),(vI r_3.1.H)] rfl wz (aG xA rfl 3 rfl wz (gu 0 il ft 2 sz3 rfl rfl [(vI r_3.1.X),(vI r_3.1.Y),(vI r_21.1),(vI r_24.1)] rfl wz (ai ?_)))))
     obtain rfl:=ah h_11
     exact cu
    ·refine ax rfl hc_20 (aa (ae (.ref (au 0) 0 0) wz rfl (dY (([(-100000),99999]:List Int).map eI) iW si rfl rfl rfl rfl rfl wz ?_)))
     obtain ⟨r_27,hr_28,h_11⟩:=bind_some h_11
     refine aM 0 [0] il ft (eX hr_28) rfl DI rfl (by kernel_rfl) (by kernel_rfl) (by kernel_rfl) (by kernel_rfl) (by kernel_rfl) (by kernel_rfl) (by kernel_rfl) (by decide) (by kernel_rfl) wz (vI r_27.1) (by kernel_rfl) ([((au 0),some (.cells 2 [(vL eI r_27.2.L),(vI r_27.2.f_at)])),(n_2,some (.cells 4 [(vI 0),(vI 0),(vI 0),(vI 0)])),(n_6,some (.cells 4 [(vI r_3.1.X),(vI r_3.1.Y),(vI r_3.1.W),(vI r_3.1.H)]))]:Hp) (by kernel_rfl) (ae (.ref (au 0) 0 0) wz rfl (dY (([1,2,200000]:List Int).map eI) iW si rfl rfl rfl rfl rfl wz ?_))
     obtain ⟨r_30,hr_31,h_11⟩:=bind_some h_11
     refine aM 0 [0] il ft (eX hr_31) rfl DI rfl (by kernel_rfl) (by kernel_rfl) (by kernel_rfl) (by kernel_rfl) (by kernel_rfl) (by kernel_rfl) (by kernel_rfl) (by decide) (by kernel_rfl) wz (vI r_30.1) (by kernel_rfl) ([((au 0),some (.cells 2 [(vL eI r_30.2.L),(vI r_30.2.f_at)])),(n_2,some (.cells 4 [(vI 0),(vI 0),(vI 0),(vI 0)])),(n_6,some (.cells 4 [(vI r_3.1.X),(vI r_3.1.Y),(vI r_3.1.W),(vI r_3.1.H)]))]:Hp) (by kernel_rfl) (aG rE rfl 1 rfl wz (gu 0 il ft 2 sz3 rfl rfl [(vI r_3.1.X),(vI r_27.1),(vI r_3.1.W),(vI r_3.1.H)] rfl wz (aG xA rfl 3 rfl wz (gu 0 il ft 2 sz3 rfl rfl [(vI r_3.1.X),(vI r_27.1),(vI r_3.1.W),(vI r_30.1)] rfl wz (ai ?_)))))
     obtain rfl:=ah h_11
     exact cu
  ·refine ax rfl hc_12 (av ?_)
   obtain rfl:=ah h_11
   exact cu
 ·rintro ⟨⟩ _ sl_ H_ hp_ hq_
  refine aL _ hp_ hq_ (af (aa (aF 0 2 il ft rz AC rfl rfl (.d (.agg (Rect.enc (⟨v_10.2.2.1,v_10.2.2.2.1,v_10.2.2.2.2.1,v_10.2.2.2.2.2⟩:Rect)))) rfl wz (gu 0 il ft 1 rz rfl rfl [(vI v_10.2.2.1),(vI v_10.2.2.2.1),(vI v_10.2.2.2.2.1),(vI v_10.2.2.2.2.2)] rfl wz (ai ?_)))))
  obtain rfl:=ah hF
  exact ay (rX (.inr rfl) [(.d (.agg (Rect.enc (⟨v_10.2.2.1,v_10.2.2.2.1,v_10.2.2.2.2.1,v_10.2.2.2.2.2⟩:Rect))))] _ [0] [au 0] ⟨⟨1,_,_,_,_,_,_,_,rfl,rfl,rz,AC,rfl⟩,trivial⟩ (.cons (gN rfl rfl) (.nil)) (by kernel_rfl) ⟨(by kernel_rfl),trivial⟩ (by decide) (by kernel_rfl))
theorem vw {s_1:Stream} {most_2:Int} {r:(List Rect)×Stream} (hF:jK s_1 most_2=some r) :
  FnM Tryz.prog 82 [(.ref (au 0) 0 0),(vI most_2)] [(.cells 2 [(vL eI s_1.L),(vI s_1.f_at)])] (vL Rect.enc r.1) [some (.cells 2 [(vL eI r.2.L),(vI r.2.f_at)])]:=by
 refine FnM.of_wH ⟨Tryz.prog,24,[],[]⟩ rfl Tryz.func82 rfl rfl (Nat.le_of_ble_eq_true rfl) (by kernel_rfl) ?_
 unfold jK at hF
 refine af (aa (ae .nil wz rfl (ai (af (aa (ae .nil wz rfl (ai (af (af (aa (ae (.ref (au 0) 0 0) wz rfl (ae (vI most_2) wz rfl ?_))))))))))))
 obtain ⟨r_3,hr_4,hF⟩:=bind_some hF
 refine aM 0 [0] il ft (bO hr_4) rfl zk rfl (by kernel_rfl) (by kernel_rfl) (by kernel_rfl) (by kernel_rfl) (by kernel_rfl) (by kernel_rfl) (by kernel_rfl) (by decide) (by kernel_rfl) wz (vI r_3.1) (by kernel_rfl) ([((au 0),some (.cells 2 [(vL eI r_3.2.L),(vI r_3.2.f_at)]))]:Hp) (by kernel_rfl) (ae (vI 0) wz rfl (ai (oG (fun n_12 => ?_))))
 obtain ⟨o_17,hj_18,hF⟩:=bind_some hF
 obtain ⟨hn_10,hj_18⟩:=aZ hj_18
 refine aC (β:=((List Rect)×(List Int)×Int)×Nm) (fun p=>(fun (s_11:(List Rect)×(List Int)×Int) (n_14:Nm)=>([(5,(gV n_14 4 s_11.1))]:List (Nat×V))) p.1 p.2) (fun p=>(fun (s_11:(List Rect)×(List Int)×Int) (n_14:Nm)=>([((au 0),some (.cells 2 [(vL eI s_11.2.1),(vI s_11.2.2)])),(n_14,gB 4 Rect.enc s_11.1)]:Hp)) p.1 p.2) (fun p=>o_17 = .go p.1) ?_ ?_
 ·refine aA (aV (β:=Nat×(List Nat)×((List Rect)×(List Int)×Int)×Nm) (fun p=>(fun (k_6:Nat) (l_7:List Nat) (s_11:(List Rect)×(List Int)×Int) (n_14:Nm)=>([(0,(.ref (au 0) 0 0)),(5,(gV n_14 4 s_11.1)),(9,(vI r_3.1)),(10,(vI (k_6:Int)))]:List (Nat×V))) p.1 p.2.1 p.2.2.1 p.2.2.2) (fun p=>(fun (k_6:Nat) (l_7:List Nat) (s_11:(List Rect)×(List Int)×Int) (n_14:Nm)=>([((au 0),some (.cells 2 [(vL eI s_11.2.1),(vI s_11.2.2)])),(n_14,gB 4 Rect.enc s_11.1)]:Hp)) p.1 p.2.1 p.2.2.1 p.2.2.2) (fun p=>forR (fun k x s=>iH k x s) p.2.1 p.1 p.2.2.1=some o_17∧((List.range (r_3.1).toNat)).drop p.1=p.2.1) (fun p=>p.2.1.length) (0,(List.range (r_3.1).toNat),(([]:List Rect),r_3.2.L,r_3.2.f_at),n_12) ⟨hj_18,rfl⟩ rfl (aJ rfl) ?_)
  rintro ⟨k_6,l_7,s_11,n_14⟩ ⟨hL_16,hD_9⟩
  dsimp only at hL_16 hD_9
  cases l_7 with
  | nil =>
   obtain rfl:=ah hL_16
   refine af (aa (ae (vB (decide ((k_6:Int) < r_3.1))) wz rfl (ai ?_)))
   refine af (ax rfl (uq hD_9) (aX ?_))
   exact aU (s_11,n_14) rfl rfl (aJ rfl)
  | cons x_8 l_7 =>
   obtain ⟨c_,hc_15,hL_16⟩:=bind_some hL_16
   refine af (aa (ae (vB (decide ((k_6:Int) < r_3.1))) wz rfl (ai ?_)))
   refine af (aB rfl (qQ hD_9) (av ?_))
   unfold iH at hc_15
   refine af (aA (af (aa (ae (.ref (au 0) 0 0) wz rfl ?_))))
   obtain ⟨r_19,hr_20,hc_15⟩:=bind_some hc_15
   refine aM 0 [0] il ft (jE hr_20) rfl hb97 rfl (by kernel_rfl) (by kernel_rfl) (by kernel_rfl) (by kernel_rfl) (by kernel_rfl) (by kernel_rfl) (by kernel_rfl) (by decide) (by kernel_rfl) wz (.d (.agg (Rect.enc r_19.1))) (by kernel_rfl) ([((au 0),some (.cells 2 [(vL eI r_19.2.L),(vI r_19.2.f_at)])),(n_14,gB 4 Rect.enc s_11.1)]:Hp) (by kernel_rfl) (fH 0 (.inl rfl) z45 rfl wz (fun n_22=>gu 0 il ft 2 rz rfl rfl [(vI r_19.1.X),(vI r_19.1.Y),(vI r_19.1.W),(vI r_19.1.H)] rfl wz (ai (af (af (aa (ae (.ref (au 0) 0 0) wz rfl ?_)))))))
   obtain ⟨r_23,hr_24,hc_15⟩:=bind_some hc_15
   refine aM 0 [0] il ft (eY hr_24) rfl ES rfl (by kernel_rfl) (by kernel_rfl) (by kernel_rfl) (by kernel_rfl) (by kernel_rfl) (by kernel_rfl) (by kernel_rfl) (by decide) (by kernel_rfl) wz (vB r_23.1) (by kernel_rfl) ([((au 0),some (.cells 2 [(vL eI r_23.2.L),(vI r_23.2.f_at)])),(n_14,gB 4 Rect.enc s_11.1),(n_22,some (.cells 4 [(vI r_19.1.X),(vI r_19.1.Y),(vI r_19.1.W),(vI r_19.1.H)]))]:Hp) (by kernel_rfl) (ai ?_)
   obtain ⟨v_26,h_27,hc_15⟩:=bind_some hc_15
   refine aC (β:=Unit) (fun _=>([(0,(.ref (au 0) 0 0)),(5,(gV n_14 4 s_11.1)),(6,(.ref n_22 0 0)),(9,(vI r_3.1)),(10,(vI (k_6:Int)))]:List (Nat×V))) (fun _=>([((au 0),some (.cells 2 [(vL eI v_26.1),(vI v_26.2.1)])),(n_14,gB 4 Rect.enc s_11.1),(n_22,some (.cells 4 [(vI v_26.2.2.1),(vI v_26.2.2.2.1),(vI v_26.2.2.2.2.1),(vI v_26.2.2.2.2.2)]))]:Hp)) (fun _=>True) ?_ ?_
   ·rcases ak h_27 with⟨hc_28,h_27⟩ | ⟨hc_28,h_27⟩
    ·refine aB rfl hc_28 (aa (ae (.ref (au 0) 0 0) wz rfl ?_))
     obtain ⟨r_29,hr_30,h_27⟩:=bind_some h_27
     refine aM 0 [0] il ft (wu hr_30) rfl hb160 rfl (by kernel_rfl) (by kernel_rfl) (by kernel_rfl) (by kernel_rfl) (by kernel_rfl) (by kernel_rfl) (by kernel_rfl) (by decide) (by kernel_rfl) wz (.d (.agg (Rect.enc r_29.1))) (by kernel_rfl) ([((au 0),some (.cells 2 [(vL eI r_29.2.L),(vI r_29.2.f_at)])),(n_14,gB 4 Rect.enc s_11.1),(n_22,some (.cells 4 [(vI r_19.1.X),(vI r_19.1.Y),(vI r_19.1.W),(vI r_19.1.H)]))]:Hp) (by kernel_rfl) (gu 0 il ft 2 rz rfl rfl [(vI r_29.1.X),(vI r_29.1.Y),(vI r_29.1.W),(vI r_29.1.H)] rfl wz (ai ?_))
     obtain rfl:=ah h_27
     exact cu
    ·refine ax rfl hc_28 (av ?_)
     obtain rfl:=ah h_27
     exact cu
   ·rintro ⟨⟩ _ sl_ H_ hp_ hq_
    refine aL _ hp_ hq_ (aa (ae (gV n_14 4 s_11.1) wz rfl (aF 0 2 il ft rz AC rfl rfl (.d (.agg (Rect.enc (⟨v_26.2.2.1,v_26.2.2.2.1,v_26.2.2.2.2.1,v_26.2.2.2.2.2⟩:Rect)))) rfl wz (dY (([(⟨v_26.2.2.1,v_26.2.2.2.1,v_26.2.2.2.2.1,v_26.2.2.2.2.2⟩:Rect)]:List Rect).map Rect.enc) Jd ez98 rfl rfl rfl rfl rfl wz ?_))))
    obtain ⟨a_32,hz_33,hc_15⟩:=bind_some hc_15
    refine oL 0 il ft (i:=1) el98 el98 rz z45 rfl (by decide) by45 (by decide) (fun _=>rfl) rfl rfl rfl hz_33 wz (fun n_34=>ae (gV n_34 4 a_32) wz rfl (ai (aa (gQ (uA hD_9 hn_10) wz rfl (ae (vI ((k_6 + 1:Nat):Int)) wz rfl (ai ?_))))))
    obtain rfl:=ah hc_15
    exact aY (k_6 + 1,l_7,(a_32,v_26.1,v_26.2.1),n_34) ⟨hL_16,aR hD_9⟩ (Nat.lt_succ_self _) rfl (aJ rfl)
 ·rintro ⟨s_11,n_14⟩ ho_ sl_ H_ hp_ hq_
  subst ho_
  refine aL _ hp_ hq_ (af (aa (ae (gV n_14 4 s_11.1) wz rfl (ae (gV n_14 4 s_11.1) wz rfl (ai (jq 1 rfl (fQ 4 1 rfl rfl (fQ 5 1 rfl rfl (fQ 23 1 rfl rfl ?_)))))))))
  obtain rfl:=ah hF
  exact ay (rX (.inr rfl) [(vL Rect.enc s_11.1)] _ [0] [au 0] ⟨rfl,trivial⟩ (.cons (gN rfl rfl) (.nil)) (by kernel_rfl) ⟨(by kernel_rfl),trivial⟩ (by decide) (by kernel_rfl))
theorem uH {s_1:Stream} {most_2:Int} {r:(List Alert)×Stream} (hF:jo s_1 most_2=some r) :
  FnM Tryz.prog 18 [(.ref (au 0) 0 0),(vI most_2)] [(.cells 2 [(vL eI s_1.L),(vI s_1.f_at)])] (vL Alert.enc r.1) [some (.cells 2 [(vL eI r.2.L),(vI r.2.f_at)])]:=by
 refine FnM.of_wH ⟨Tryz.prog,99,[],[]⟩ rfl Tryz.func18 rfl rfl (Nat.le_of_ble_eq_true rfl) (by kernel_rfl) ?_
 unfold jo at hF
 refine af (aa (ae .nil wz rfl (ai (af (aa (ae (.ref (au 0) 0 0) wz rfl (ae (vI most_2) wz rfl ?_)))))))
 obtain ⟨r_3,hr_4,hF⟩:=bind_some hF
 refine GM [0] (pz hr_4) rfl hb38 rfl (by kernel_rfl) (by kernel_rfl) (by kernel_rfl) (by kernel_rfl) (by kernel_rfl) rfl (by decide) (by kernel_rfl) wz ([((au 0),some (.cells 2 [(vL eI r_3.2.L),(vI r_3.2.f_at)]))]:Hp) (fun _=>by kernel_rfl) (fun n_6=>ae (gV n_6 9 r_3.1) wz rfl (ai (af (af ?_))))
 obtain ⟨v_7,h_8,hF⟩:=bind_some hF
 refine aC (β:=Unit) (fun _=>([(0,(.ref (au 0) 0 0)),(5,(gV n_6 9 r_3.1)),(16,(vB v_7.1))]:List (Nat×V))) (fun _=>([((au 0),some (.cells 2 [(vL eI v_7.2.1),(vI v_7.2.2)])),(n_6,gB 9 Alert.enc r_3.1)]:Hp)) (fun _=>True) ?_ ?_
 ·refine aa (ae (gV n_6 9 r_3.1) wz rfl (tH pG rfl wz (ae (vB (decide ((r_3.1.length:Int) > 0))) wz rfl ?_)))
  rcases ak h_8 with⟨hc_9,h_8⟩ | ⟨hc_9,h_8⟩
  ·refine aD rfl hc_9 wz (ae (.ref (au 0) 0 0) wa rfl ?_)
   obtain ⟨r_10,hr_11,h_8⟩:=bind_some h_8
   refine aM 0 [0] il ft (eY hr_11) rfl ES rfl (by kernel_rfl) (by kernel_rfl) (by kernel_rfl) (by kernel_rfl) (by kernel_rfl) (by kernel_rfl) (by kernel_rfl) (by decide) (by kernel_rfl) wa (vB r_10.1) (by kernel_rfl) ([((au 0),some (.cells 2 [(vL eI r_10.2.L),(vI r_10.2.f_at)])),(n_6,gB 9 Alert.enc r_3.1)]:Hp) (by kernel_rfl) (ae (vB r_10.1) wz rfl (ai ?_))
   obtain rfl:=ah h_8
   exact cu
  ·refine aD rfl hc_9 wz (aj wa (aj wa (ae (vB false) wz rfl (ai ?_))))
   obtain rfl:=ah h_8
   exact cu
 ·rintro ⟨⟩ _ sl_ H_ hp_ hq_
  refine aL _ hp_ hq_ ?_
  obtain ⟨v_13,h_14,hF⟩:=bind_some hF
  refine aC (β:=Unit) (fun _=>([(5,(gV n_6 9 v_13.1))]:List (Nat×V))) (fun _=>([((au 0),some (.cells 2 [(vL eI v_13.2.1),(vI v_13.2.2)])),(n_6,gB 9 Alert.enc v_13.1)]:Hp)) (fun _=>True) ?_ ?_
  ·rcases ak h_14 with⟨hc_15,h_14⟩ | ⟨hc_15,h_14⟩
   ·refine aB rfl hc_15 (af (aa (ae (gV n_6 9 r_3.1) wz rfl (ae (.ref (au 0) 0 0) wz rfl (ae (gV n_6 9 r_3.1) wz rfl (tH pG rfl wz ?_))))))
    obtain ⟨r_16,hr_17,h_14⟩:=bind_some h_14
    refine aM 0 [0] il ft (dU hr_17) rfl CK rfl (by kernel_rfl) (by kernel_rfl) (by kernel_rfl) (by kernel_rfl) (by kernel_rfl) (by kernel_rfl) (by kernel_rfl) (by decide) (by kernel_rfl) wz (vI r_16.1) (by kernel_rfl) ([((au 0),some (.cells 2 [(vL eI r_16.2.L),(vI r_16.2.f_at)])),(n_6,gB 9 Alert.enc r_3.1)]:Hp) (by kernel_rfl) ?_
    obtain ⟨_,hi_19,h_14⟩:=bind_some h_14
    refine tJ jD rfl rfl (iP hi_19) (fO hi_19) wz (ae (.ref n_6 (0 + (r_16.1).toNat) 0) wz rfl (ai (af (aa (ae (.ref (au 0) 0 0) wz rfl ?_)))))
    obtain ⟨r_20,hr_21,h_14⟩:=bind_some h_14
    refine aM 0 [0] il ft (dU hr_21) rfl CK rfl (by kernel_rfl) (by kernel_rfl) (by kernel_rfl) (by kernel_rfl) (by kernel_rfl) (by kernel_rfl) (by kernel_rfl) (by decide) (by kernel_rfl) wz (vI r_20.1) (by kernel_rfl) ([((au 0),some (.cells 2 [(vL eI r_20.2.L),(vI r_20.2.f_at)])),(n_6,gB 9 Alert.enc r_3.1)]:Hp) (by kernel_rfl) (ai (aA (af (aa (ae (vB (r_20.1 == 0)) wz rfl (ae (vB (r_20.1 == 0)) wz rfl (ai ?_)))))))
    rcases ak h_14 with⟨hc_23,h_14⟩ | ⟨hc_23,h_14⟩
    ·refine aB rfl hc_23 (aa (ae (.ref n_6 (0 + (r_16.1).toNat) 0) wz rfl (ae (.ref n_6 (0 + (r_16.1).toNat) 0) wz rfl (ae (.ref (au 0) 0 0) wz rfl (ae (.ref n_6 (0 + (r_16.1).toNat) 0) wz rfl (ae (.ref n_6 (0 + (r_16.1).toNat) 0) wz rfl (aG eT rfl 0 rfl wz ?_)))))))
     obtain ⟨e_24,hy_25,h_14⟩:=bind_some h_14
     refine jh 0 1 il ft sz9 ag9 rfl rfl hy_25 (vS e_24.Id) rfl wz (dY (([e_24.Id,(⟨#[]⟩:ByteArray),(⟨#[97,97]⟩:ByteArray)]:List ByteArray).map eS) mM sS rfl rfl rfl rfl rfl wz ?_)
     obtain ⟨r_26,hr_27,h_14⟩:=bind_some h_14
     refine aM 0 [0] il ft (fU hr_27) rfl Ga rfl (by kernel_rfl) (by kernel_rfl) (by kernel_rfl) (by kernel_rfl) (by kernel_rfl) (by kernel_rfl) (by kernel_rfl) (by decide) (by kernel_rfl) wz (vS r_26.1) (by kernel_rfl) ([((au 0),some (.cells 2 [(vL eI r_26.2.L),(vI r_26.2.f_at)])),(n_6,gB 9 Alert.enc r_3.1)]:Hp) (by kernel_rfl) (ae (.ref (au 0) 0 0) wz rfl (dY (([(⟨#[119,120]⟩:ByteArray),(⟨#[65]⟩:ByteArray)]:List ByteArray).map eS) mM sS rfl rfl rfl rfl rfl wz ?_))
     obtain ⟨r_29,hr_30,h_14⟩:=bind_some h_14
     refine aM 0 [0] il ft (fU hr_30) rfl Ga rfl (by kernel_rfl) (by kernel_rfl) (by kernel_rfl) (by kernel_rfl) (by kernel_rfl) (by kernel_rfl) (by kernel_rfl) (by decide) (by kernel_rfl) wz (vS r_29.1) (by kernel_rfl) ([((au 0),some (.cells 2 [(vL eI r_29.2.L),(vI r_29.2.f_at)])),(n_6,gB 9 Alert.enc r_3.1)]:Hp) (by kernel_rfl) (ae (.ref n_6 (0 + (r_16.1).toNat) 0) wz rfl (aG eT rfl 0 rfl wz ?_))
     obtain ⟨e_32,hy_33,h_14⟩:=bind_some h_14
     refine jl 0 il ft 1 sz9 rfl rfl hy_33 (⟨r_26.1,e_32.Sender,e_32.Kind,e_32.Refs,e_32.At,e_32.Until,e_32.Weight,e_32.Areas,e_32.Text⟩:Alert) rfl wz (bC (v':=(gV n_6 9 (r_3.1.set (0 + (r_16.1).toNat) (⟨r_26.1,e_32.Sender,e_32.Kind,e_32.Refs,e_32.At,e_32.Until,e_32.Weight,e_32.Areas,e_32.Text⟩:Alert)))) 5 rfl (bI (by simp)) (bC (v':=(gV n_6 9 (r_3.1.set (0 + (r_16.1).toNat) (⟨r_26.1,e_32.Sender,e_32.Kind,e_32.Refs,e_32.At,e_32.Until,e_32.Weight,e_32.Areas,e_32.Text⟩:Alert)))) 17 rfl (bI (by simp)) (bC (v':=(gV n_6 9 (r_3.1.set (0 + (r_16.1).toNat) (⟨r_26.1,e_32.Sender,e_32.Kind,e_32.Refs,e_32.At,e_32.Until,e_32.Weight,e_32.Areas,e_32.Text⟩:Alert)))) 19 rfl (bI (by simp)) (ae (.ref n_6 (0 + (r_16.1).toNat) 0) wz rfl (aG rF rfl 1 rfl wz ?_)))))
     obtain ⟨e_34,hy_35,h_14⟩:=bind_some h_14
     refine jl 0 il ft 1 sz9 rfl rfl hy_35 (⟨e_34.Id,r_29.1,e_34.Kind,e_34.Refs,e_34.At,e_34.Until,e_34.Weight,e_34.Areas,e_34.Text⟩:Alert) rfl wz (bC (v':=(gV n_6 9 ((r_3.1.set (0 + (r_16.1).toNat) (⟨r_26.1,e_32.Sender,e_32.Kind,e_32.Refs,e_32.At,e_32.Until,e_32.Weight,e_32.Areas,e_32.Text⟩:Alert)).set (0 + (r_16.1).toNat) (⟨e_34.Id,r_29.1,e_34.Kind,e_34.Refs,e_34.At,e_34.Until,e_34.Weight,e_34.Areas,e_34.Text⟩:Alert)))) 5 rfl (bI (by simp)) (bC (v':=(gV n_6 9 ((r_3.1.set (0 + (r_16.1).toNat) (⟨r_26.1,e_32.Sender,e_32.Kind,e_32.Refs,e_32.At,e_32.Until,e_32.Weight,e_32.Areas,e_32.Text⟩:Alert)).set (0 + (r_16.1).toNat) (⟨e_34.Id,r_29.1,e_34.Kind,e_34.Refs,e_34.At,e_34.Until,e_34.Weight,e_34.Areas,e_34.Text⟩:Alert)))) 17 rfl (bI (by simp)) (bC (v':=(gV n_6 9 ((r_3.1.set (0 + (r_16.1).toNat) (⟨r_26.1,e_32.Sender,e_32.Kind,e_32.Refs,e_32.At,e_32.Until,e_32.Weight,e_32.Areas,e_32.Text⟩:Alert)).set (0 + (r_16.1).toNat) (⟨e_34.Id,r_29.1,e_34.Kind,e_34.Refs,e_34.At,e_34.Until,e_34.Weight,e_34.Areas,e_34.Text⟩:Alert)))) 19 rfl (bI (by simp)) (ai ?_))))
     obtain rfl:=ah h_14
     exact cu
    ·refine ax rfl hc_23 (af (aa (ae (vB (r_20.1 == 1)) wz rfl (ae (vB (r_20.1 == 1)) wz rfl (ai ?_)))))
     rcases ak h_14 with⟨hc_36,h_14⟩ | ⟨hc_36,h_14⟩
     ·refine aB rfl hc_36 (aa (ae (.ref n_6 (0 + (r_16.1).toNat) 0) wz rfl (ae (.ref (au 0) 0 0) wz rfl ?_)))
      obtain ⟨r_37,hr_38,h_14⟩:=bind_some h_14
      refine aM 0 [0] il ft (dL hr_38) rfl Bd rfl (by kernel_rfl) (by kernel_rfl) (by kernel_rfl) (by kernel_rfl) (by kernel_rfl) (by kernel_rfl) (by kernel_rfl) (by decide) (by kernel_rfl) wz (vI r_37.1) (by kernel_rfl) ([((au 0),some (.cells 2 [(vL eI r_37.2.L),(vI r_37.2.f_at)])),(n_6,gB 9 Alert.enc r_3.1)]:Hp) (by kernel_rfl) (ae (.ref n_6 (0 + (r_16.1).toNat) 0) wz rfl (aG lL rfl 2 rfl wz ?_))
      obtain ⟨e_40,hy_41,h_14⟩:=bind_some h_14
      refine jl 0 il ft 1 sz3 rfl rfl hy_41 (⟨e_40.Id,e_40.Sender,r_37.1,e_40.Refs,e_40.At,e_40.Until,e_40.Weight,e_40.Areas,e_40.Text⟩:Alert) rfl wz (bC (v':=(gV n_6 9 (r_3.1.set (0 + (r_16.1).toNat) (⟨e_40.Id,e_40.Sender,r_37.1,e_40.Refs,e_40.At,e_40.Until,e_40.Weight,e_40.Areas,e_40.Text⟩:Alert)))) 5 rfl (bI (by simp)) (bC (v':=(gV n_6 9 (r_3.1.set (0 + (r_16.1).toNat) (⟨e_40.Id,e_40.Sender,r_37.1,e_40.Refs,e_40.At,e_40.Until,e_40.Weight,e_40.Areas,e_40.Text⟩:Alert)))) 17 rfl (bI (by simp)) (bC (v':=(gV n_6 9 (r_3.1.set (0 + (r_16.1).toNat) (⟨e_40.Id,e_40.Sender,r_37.1,e_40.Refs,e_40.At,e_40.Until,e_40.Weight,e_40.Areas,e_40.Text⟩:Alert)))) 19 rfl (bI (by simp)) (ai ?_))))
      obtain rfl:=ah h_14
      exact cu
     ·refine ax rfl hc_36 (af (aa (ae (vB (r_20.1 == 2)) wz rfl (ae (vB (r_20.1 == 2)) wz rfl (ai ?_)))))
      rcases ak h_14 with⟨hc_42,h_14⟩ | ⟨hc_42,h_14⟩
      ·refine aB rfl hc_42 (cK (ae (.ref n_6 (0 + (r_16.1).toNat) 0) wz rfl (dY (([(⟨#[97,98]⟩:ByteArray),(⟨#[97,97]⟩:ByteArray)]:List ByteArray).map eS) mM sS rfl rfl rfl rfl rfl wz (ae (.ref n_6 (0 + (r_16.1).toNat) 0) wz rfl (ae (.ref n_6 (0 + (r_16.1).toNat) 0) wz rfl (aG eT rfl 0 rfl wz ?_))))))
       obtain ⟨e_43,hy_44,h_14⟩:=bind_some h_14
       refine jh 5 1 (.inr (by kernel_rfl)) (fun _ _ ag=>trivial) sz9 ag9 rfl rfl hy_44 (vS e_43.Id) rfl wz (dY (([e_43.Id]:List ByteArray).map eS) mM sS rfl rfl rfl rfl rfl wz (dY (([(⟨#[65]⟩:ByteArray)]:List ByteArray).map eS) mM sS rfl rfl rfl rfl rfl wz (dY (([(⟨#[97,97]⟩:ByteArray),(⟨#[122,122]⟩:ByteArray)]:List ByteArray).map eS) mM sS rfl rfl rfl rfl rfl wz (dY (([([]:List ByteArray),([(⟨#[97,98]⟩:ByteArray),(⟨#[97,97]⟩:ByteArray)]:List ByteArray),([e_43.Id]:List ByteArray),([(⟨#[65]⟩:ByteArray)]:List ByteArray),([(⟨#[97,97]⟩:ByteArray),(⟨#[122,122]⟩:ByteArray)]:List ByteArray)]:List (List ByteArray)).map (eL eS)) es161 ez161 rfl rfl rfl rfl rfl wz (ae (.ref (au 0) 0 0) wz rfl ?_)))))
       obtain ⟨r_45,hr_46,h_14⟩:=bind_some h_14
       refine aM 11 [0] (.inr (by kernel_rfl)) (fun _ _ ag=>by exact⟨.inr (.inl (dis1 (KW ag (i:=0) (j:=1) rfl rfl (by decide)))),trivial⟩) (dU hr_46) rfl CK rfl (by kernel_rfl) (by kernel_rfl) (by kernel_rfl) (by kernel_rfl) (by kernel_rfl) (by kernel_rfl) (by kernel_rfl) (by decide) (by kernel_rfl) wz (vI r_45.1) (by kernel_rfl) ([((au 0),some (.cells 2 [(vL eI r_45.2.L),(vI r_45.2.f_at)])),(n_6,gB 9 Alert.enc r_3.1)]:Hp) (by kernel_rfl) ?_
       obtain ⟨y_48,hy_49,h_14⟩:=bind_some h_14
       refine gL es161 rfl rfl hy_49 rfl wz (dn uM xk rfl (vL eS y_48) rfl wz (ae (.ref n_6 (0 + (r_16.1).toNat) 0) wz rfl (aG jI rfl 3 rfl wz ?_)))
       obtain ⟨e_50,hy_51,h_14⟩:=bind_some h_14
       refine jl 16 (.inr (by kernel_rfl)) (fun _ _ ag=>⟨.inr (.inr (by kernel_rfl)),⟨.inr (.inr (by kernel_rfl)),trivial⟩⟩) 1 uM rfl rfl hy_51 (⟨e_50.Id,e_50.Sender,e_50.Kind,y_48,e_50.At,e_50.Until,e_50.Weight,e_50.Areas,e_50.Text⟩:Alert) rfl wz (bC (v':=(gV n_6 9 (r_3.1.set (0 + (r_16.1).toNat) (⟨e_50.Id,e_50.Sender,e_50.Kind,y_48,e_50.At,e_50.Until,e_50.Weight,e_50.Areas,e_50.Text⟩:Alert)))) 5 rfl (bI (by simp)) (bC (v':=(gV n_6 9 (r_3.1.set (0 + (r_16.1).toNat) (⟨e_50.Id,e_50.Sender,e_50.Kind,y_48,e_50.At,e_50.Until,e_50.Weight,e_50.Areas,e_50.Text⟩:Alert)))) 17 rfl (bI (by simp)) (bC (v':=(gV n_6 9 (r_3.1.set (0 + (r_16.1).toNat) (⟨e_50.Id,e_50.Sender,e_50.Kind,y_48,e_50.At,e_50.Until,e_50.Weight,e_50.Areas,e_50.Text⟩:Alert)))) 19 rfl (bI (by simp)) (ai ?_))))
       obtain rfl:=ah h_14
       exact cu
      ·refine ax rfl hc_42 (af (aa (ae (vB (r_20.1 == 3)) wz rfl (ae (vB (r_20.1 == 3)) wz rfl (ai ?_)))))
       rcases ak h_14 with⟨hc_52,h_14⟩ | ⟨hc_52,h_14⟩
       ·refine aB rfl hc_52 (aa (ae (.ref n_6 (0 + (r_16.1).toNat) 0) wz rfl (ae (.ref n_6 (0 + (r_16.1).toNat) 0) wz rfl (ae (.ref (au 0) 0 0) wz rfl ?_))))
        obtain ⟨r_53,hr_54,h_14⟩:=bind_some h_14
        refine aM 0 [0] il ft (dL hr_54) rfl Bd rfl (by kernel_rfl) (by kernel_rfl) (by kernel_rfl) (by kernel_rfl) (by kernel_rfl) (by kernel_rfl) (by kernel_rfl) (by decide) (by kernel_rfl) wz (vI r_53.1) (by kernel_rfl) ([((au 0),some (.cells 2 [(vL eI r_53.2.L),(vI r_53.2.f_at)])),(n_6,gB 9 Alert.enc r_3.1)]:Hp) (by kernel_rfl) (ae (.ref (au 0) 0 0) wz rfl ?_)
        obtain ⟨r_56,hr_57,h_14⟩:=bind_some h_14
        refine aM 0 [0] il ft (dL hr_57) rfl Bd rfl (by kernel_rfl) (by kernel_rfl) (by kernel_rfl) (by kernel_rfl) (by kernel_rfl) (by kernel_rfl) (by kernel_rfl) (by decide) (by kernel_rfl) wz (vI r_56.1) (by kernel_rfl) ([((au 0),some (.cells 2 [(vL eI r_56.2.L),(vI r_56.2.f_at)])),(n_6,gB 9 Alert.enc r_3.1)]:Hp) (by kernel_rfl) (ae (.ref n_6 (0 + (r_16.1).toNat) 0) wz rfl (aG dZ rfl 4 rfl wz ?_))
        obtain ⟨e_59,hy_60,h_14⟩:=bind_some h_14
        refine jl 0 il ft 1 sz3 rfl rfl hy_60 (⟨e_59.Id,e_59.Sender,e_59.Kind,e_59.Refs,r_53.1,e_59.Until,e_59.Weight,e_59.Areas,e_59.Text⟩:Alert) rfl wz (bC (v':=(gV n_6 9 (r_3.1.set (0 + (r_16.1).toNat) (⟨e_59.Id,e_59.Sender,e_59.Kind,e_59.Refs,r_53.1,e_59.Until,e_59.Weight,e_59.Areas,e_59.Text⟩:Alert)))) 5 rfl (bI (by simp)) (bC (v':=(gV n_6 9 (r_3.1.set (0 + (r_16.1).toNat) (⟨e_59.Id,e_59.Sender,e_59.Kind,e_59.Refs,r_53.1,e_59.Until,e_59.Weight,e_59.Areas,e_59.Text⟩:Alert)))) 17 rfl (bI (by simp)) (bC (v':=(gV n_6 9 (r_3.1.set (0 + (r_16.1).toNat) (⟨e_59.Id,e_59.Sender,e_59.Kind,e_59.Refs,r_53.1,e_59.Until,e_59.Weight,e_59.Areas,e_59.Text⟩:Alert)))) 19 rfl (bI (by simp)) (ae (.ref n_6 (0 + (r_16.1).toNat) 0) wz rfl (aG rJ rfl 5 rfl wz ?_)))))
        obtain ⟨e_61,hy_62,h_14⟩:=bind_some h_14
        refine jl 0 il ft 1 sz3 rfl rfl hy_62 (⟨e_61.Id,e_61.Sender,e_61.Kind,e_61.Refs,e_61.At,r_56.1,e_61.Weight,e_61.Areas,e_61.Text⟩:Alert) rfl wz (bC (v':=(gV n_6 9 ((r_3.1.set (0 + (r_16.1).toNat) (⟨e_59.Id,e_59.Sender,e_59.Kind,e_59.Refs,r_53.1,e_59.Until,e_59.Weight,e_59.Areas,e_59.Text⟩:Alert)).set (0 + (r_16.1).toNat) (⟨e_61.Id,e_61.Sender,e_61.Kind,e_61.Refs,e_61.At,r_56.1,e_61.Weight,e_61.Areas,e_61.Text⟩:Alert)))) 5 rfl (bI (by simp)) (bC (v':=(gV n_6 9 ((r_3.1.set (0 + (r_16.1).toNat) (⟨e_59.Id,e_59.Sender,e_59.Kind,e_59.Refs,r_53.1,e_59.Until,e_59.Weight,e_59.Areas,e_59.Text⟩:Alert)).set (0 + (r_16.1).toNat) (⟨e_61.Id,e_61.Sender,e_61.Kind,e_61.Refs,e_61.At,r_56.1,e_61.Weight,e_61.Areas,e_61.Text⟩:Alert)))) 17 rfl (bI (by simp)) (bC (v':=(gV n_6 9 ((r_3.1.set (0 + (r_16.1).toNat) (⟨e_59.Id,e_59.Sender,e_59.Kind,e_59.Refs,r_53.1,e_59.Until,e_59.Weight,e_59.Areas,e_59.Text⟩:Alert)).set (0 + (r_16.1).toNat) (⟨e_61.Id,e_61.Sender,e_61.Kind,e_61.Refs,e_61.At,r_56.1,e_61.Weight,e_61.Areas,e_61.Text⟩:Alert)))) 19 rfl (bI (by simp)) (ai ?_))))
        obtain rfl:=ah h_14
        exact cu
       ·refine ax rfl hc_52 (af (aa (ae (vB (r_20.1 == 4)) wz rfl (ae (vB (r_20.1 == 4)) wz rfl (ai ?_)))))
        rcases ak h_14 with⟨hc_63,h_14⟩ | ⟨hc_63,h_14⟩
        ·refine aB rfl hc_63 (aa (ae (.ref n_6 (0 + (r_16.1).toNat) 0) wz rfl (ae (.ref n_6 (0 + (r_16.1).toNat) 0) wz rfl (ae (.ref (au 0) 0 0) wz rfl ?_))))
         obtain ⟨r_64,hr_65,h_14⟩:=bind_some h_14
         refine aM 0 [0] il ft (vw hr_65) rfl hb82 rfl (by kernel_rfl) (by kernel_rfl) (by kernel_rfl) (by kernel_rfl) (by kernel_rfl) (by kernel_rfl) (by kernel_rfl) (by decide) (by kernel_rfl) wz (vL Rect.enc r_64.1) (by kernel_rfl) ([((au 0),some (.cells 2 [(vL eI r_64.2.L),(vI r_64.2.f_at)])),(n_6,gB 9 Alert.enc r_3.1)]:Hp) (by kernel_rfl) (ae (.ref (au 0) 0 0) wz rfl ?_)
         obtain ⟨r_67,hr_68,h_14⟩:=bind_some h_14
         refine aM 0 [0] il ft (dL hr_68) rfl Bd rfl (by kernel_rfl) (by kernel_rfl) (by kernel_rfl) (by kernel_rfl) (by kernel_rfl) (by kernel_rfl) (by kernel_rfl) (by decide) (by kernel_rfl) wz (vI r_67.1) (by kernel_rfl) ([((au 0),some (.cells 2 [(vL eI r_67.2.L),(vI r_67.2.f_at)])),(n_6,gB 9 Alert.enc r_3.1)]:Hp) (by kernel_rfl) (ae (.ref n_6 (0 + (r_16.1).toNat) 0) wz rfl (aG mg rfl 7 rfl wz ?_))
         obtain ⟨e_70,hy_71,h_14⟩:=bind_some h_14
         refine jl 0 il ft 1 zh rfl rfl hy_71 (⟨e_70.Id,e_70.Sender,e_70.Kind,e_70.Refs,e_70.At,e_70.Until,e_70.Weight,r_64.1,e_70.Text⟩:Alert) rfl wz (bC (v':=(gV n_6 9 (r_3.1.set (0 + (r_16.1).toNat) (⟨e_70.Id,e_70.Sender,e_70.Kind,e_70.Refs,e_70.At,e_70.Until,e_70.Weight,r_64.1,e_70.Text⟩:Alert)))) 5 rfl (bI (by simp)) (bC (v':=(gV n_6 9 (r_3.1.set (0 + (r_16.1).toNat) (⟨e_70.Id,e_70.Sender,e_70.Kind,e_70.Refs,e_70.At,e_70.Until,e_70.Weight,r_64.1,e_70.Text⟩:Alert)))) 17 rfl (bI (by simp)) (bC (v':=(gV n_6 9 (r_3.1.set (0 + (r_16.1).toNat) (⟨e_70.Id,e_70.Sender,e_70.Kind,e_70.Refs,e_70.At,e_70.Until,e_70.Weight,r_64.1,e_70.Text⟩:Alert)))) 19 rfl (bI (by simp)) (ae (.ref n_6 (0 + (r_16.1).toNat) 0) wz rfl (aG rC rfl 6 rfl wz ?_)))))
         obtain ⟨e_72,hy_73,h_14⟩:=bind_some h_14
         refine jl 0 il ft 1 sz3 rfl rfl hy_73 (⟨e_72.Id,e_72.Sender,e_72.Kind,e_72.Refs,e_72.At,e_72.Until,r_67.1,e_72.Areas,e_72.Text⟩:Alert) rfl wz (bC (v':=(gV n_6 9 ((r_3.1.set (0 + (r_16.1).toNat) (⟨e_70.Id,e_70.Sender,e_70.Kind,e_70.Refs,e_70.At,e_70.Until,e_70.Weight,r_64.1,e_70.Text⟩:Alert)).set (0 + (r_16.1).toNat) (⟨e_72.Id,e_72.Sender,e_72.Kind,e_72.Refs,e_72.At,e_72.Until,r_67.1,e_72.Areas,e_72.Text⟩:Alert)))) 5 rfl (bI (by simp)) (bC (v':=(gV n_6 9 ((r_3.1.set (0 + (r_16.1).toNat) (⟨e_70.Id,e_70.Sender,e_70.Kind,e_70.Refs,e_70.At,e_70.Until,e_70.Weight,r_64.1,e_70.Text⟩:Alert)).set (0 + (r_16.1).toNat) (⟨e_72.Id,e_72.Sender,e_72.Kind,e_72.Refs,e_72.At,e_72.Until,r_67.1,e_72.Areas,e_72.Text⟩:Alert)))) 17 rfl (bI (by simp)) (bC (v':=(gV n_6 9 ((r_3.1.set (0 + (r_16.1).toNat) (⟨e_70.Id,e_70.Sender,e_70.Kind,e_70.Refs,e_70.At,e_70.Until,e_70.Weight,r_64.1,e_70.Text⟩:Alert)).set (0 + (r_16.1).toNat) (⟨e_72.Id,e_72.Sender,e_72.Kind,e_72.Refs,e_72.At,e_72.Until,r_67.1,e_72.Areas,e_72.Text⟩:Alert)))) 19 rfl (bI (by simp)) (ai ?_))))
         obtain rfl:=ah h_14
         exact cu
        ·refine ax rfl hc_63 (aa (ae (.ref n_6 (0 + (r_16.1).toNat) 0) wz rfl (ae (.ref (au 0) 0 0) wz rfl (dY (([(⟨#[]⟩:ByteArray),(⟨#[32,120]⟩:ByteArray),(⟨#[97,32,32,98]⟩:ByteArray),(⟨#[10]⟩:ByteArray),(⟨#[255]⟩:ByteArray)]:List ByteArray).map eS) mM sS rfl rfl rfl rfl rfl wz ?_))))
         obtain ⟨r_74,hr_75,h_14⟩:=bind_some h_14
         refine aM 0 [0] il ft (fU hr_75) rfl Ga rfl (by kernel_rfl) (by kernel_rfl) (by kernel_rfl) (by kernel_rfl) (by kernel_rfl) (by kernel_rfl) (by kernel_rfl) (by decide) (by kernel_rfl) wz (vS r_74.1) (by kernel_rfl) ([((au 0),some (.cells 2 [(vL eI r_74.2.L),(vI r_74.2.f_at)])),(n_6,gB 9 Alert.enc r_3.1)]:Hp) (by kernel_rfl) (ae (.ref n_6 (0 + (r_16.1).toNat) 0) wz rfl (aG pM rfl 8 rfl wz ?_))
         obtain ⟨e_77,hy_78,h_14⟩:=bind_some h_14
         refine jl 0 il ft 1 sz9 rfl rfl hy_78 (⟨e_77.Id,e_77.Sender,e_77.Kind,e_77.Refs,e_77.At,e_77.Until,e_77.Weight,e_77.Areas,r_74.1⟩:Alert) rfl wz (bC (v':=(gV n_6 9 (r_3.1.set (0 + (r_16.1).toNat) (⟨e_77.Id,e_77.Sender,e_77.Kind,e_77.Refs,e_77.At,e_77.Until,e_77.Weight,e_77.Areas,r_74.1⟩:Alert)))) 5 rfl (bI (by simp)) (bC (v':=(gV n_6 9 (r_3.1.set (0 + (r_16.1).toNat) (⟨e_77.Id,e_77.Sender,e_77.Kind,e_77.Refs,e_77.At,e_77.Until,e_77.Weight,e_77.Areas,r_74.1⟩:Alert)))) 17 rfl (bI (by simp)) (bC (v':=(gV n_6 9 (r_3.1.set (0 + (r_16.1).toNat) (⟨e_77.Id,e_77.Sender,e_77.Kind,e_77.Refs,e_77.At,e_77.Until,e_77.Weight,e_77.Areas,r_74.1⟩:Alert)))) 19 rfl (bI (by simp)) (ai ?_))))
         obtain rfl:=ah h_14
         exact cu
   ·refine ax rfl hc_15 (av ?_)
    obtain rfl:=ah h_14
    exact cu
  ·rintro ⟨⟩ _ sl_ H_ hp_ hq_
   refine aL _ hp_ hq_ (af (aa (ae (gV n_6 9 v_13.1) wz rfl (ae (gV n_6 9 v_13.1) wz rfl (ai (jq 1 rfl (fQ 4 1 rfl rfl (fQ 5 1 rfl rfl (fQ 98 1 rfl rfl ?_)))))))))
   obtain rfl:=ah hF
   exact ay (rX (.inr rfl) [(vL Alert.enc v_13.1)] _ [0] [au 0] ⟨rfl,trivial⟩ (.cons (gN rfl rfl) (.nil)) (by kernel_rfl) ⟨(by kernel_rfl),trivial⟩ (by decide) (by kernel_rfl))
theorem pW {s_1:Stream} {r:(List Post)×Stream} (hF:gP s_1=some r) :
  FnM Tryz.prog 39 [(.ref (au 0) 0 0)] [(.cells 2 [(vL eI s_1.L),(vI s_1.f_at)])] (gV (au 1) 3 r.1) (([(.cells 2 [(vL eI r.2.L),(vI r.2.f_at)])]:List Box).map some++gO 3 Post.enc r.1):=by
 refine FnM.of_wH ⟨Tryz.prog,26,[],[]⟩ rfl Tryz.func39 rfl rfl (Nat.le_of_ble_eq_true rfl) (by kernel_rfl) ?_
 unfold gP at hF
 refine af (aa (ae .nil wz rfl (ai (af (aa (ae .nil wz rfl (ai (af (af (aa (dY (([(⟨#[112,97]⟩:ByteArray),(⟨#[112,98]⟩:ByteArray),(⟨#[112,99]⟩:ByteArray)]:List ByteArray).map eS) mM sS rfl rfl rfl rfl rfl wz (bZ vv rfl wz (ae (vI 0) wz rfl (ai (oG (fun n_8 => ?_))))))))))))))))
 obtain ⟨o_13,hj_14,hF⟩:=bind_some hF
 obtain ⟨hn_6,hj_14⟩:=aZ hj_14
 refine aC (β:=((List Post)×(List Int)×Int)×Nm) (fun p=>(fun (s_7:(List Post)×(List Int)×Int) (n_10:Nm)=>([(3,(gV n_10 3 s_7.1))]:List (Nat×V))) p.1 p.2) (fun p=>(fun (s_7:(List Post)×(List Int)×Int) (n_10:Nm)=>([((au 0),some (.cells 2 [(vL eI s_7.2.1),(vI s_7.2.2)])),(n_10,gB 3 Post.enc s_7.1)]:Hp)) p.1 p.2) (fun p=>o_13 = .go p.1) ?_ ?_
 ·refine aA (aV (β:=Nat×(List ByteArray)×((List Post)×(List Int)×Int)×Nm) (fun p=>(fun (k_2:Nat) (l_3:List ByteArray) (s_7:(List Post)×(List Int)×Int) (n_10:Nm)=>([(0,(.ref (au 0) 0 0)),(3,(gV n_10 3 s_7.1)),(6,(vL eS ([(⟨#[112,97]⟩:ByteArray),(⟨#[112,98]⟩:ByteArray),(⟨#[112,99]⟩:ByteArray)]:List ByteArray))),(7,(vI (([(⟨#[112,97]⟩:ByteArray),(⟨#[112,98]⟩:ByteArray),(⟨#[112,99]⟩:ByteArray)]:List ByteArray).length:Int))),(8,(vI (k_2:Int)))]:List (Nat×V))) p.1 p.2.1 p.2.2.1 p.2.2.2) (fun p=>(fun (k_2:Nat) (l_3:List ByteArray) (s_7:(List Post)×(List Int)×Int) (n_10:Nm)=>([((au 0),some (.cells 2 [(vL eI s_7.2.1),(vI s_7.2.2)])),(n_10,gB 3 Post.enc s_7.1)]:Hp)) p.1 p.2.1 p.2.2.1 p.2.2.2) (fun p=>forR (fun k x s=>dX k x s) p.2.1 p.1 p.2.2.1=some o_13∧(([(⟨#[112,97]⟩:ByteArray),(⟨#[112,98]⟩:ByteArray),(⟨#[112,99]⟩:ByteArray)]:List ByteArray)).drop p.1=p.2.1) (fun p=>p.2.1.length) (0,([(⟨#[112,97]⟩:ByteArray),(⟨#[112,98]⟩:ByteArray),(⟨#[112,99]⟩:ByteArray)]:List ByteArray),(([]:List Post),s_1.L,s_1.f_at),n_8) ⟨hj_14,rfl⟩ rfl (aJ rfl) ?_)
  rintro ⟨k_2,l_3,s_7,n_10⟩ ⟨hL_12,hD_5⟩
  dsimp only at hL_12 hD_5
  cases l_3 with
  | nil =>
   obtain rfl:=ah hL_12
   refine af (aa (ae (vB (decide ((k_2:Int) < (([(⟨#[112,97]⟩:ByteArray),(⟨#[112,98]⟩:ByteArray),(⟨#[112,99]⟩:ByteArray)]:List ByteArray).length:Int)))) wz rfl (ai ?_)))
   refine af (ax rfl (drop_nil hD_5) (aX ?_))
   exact aU (s_7,n_10) rfl rfl (aJ rfl)
  | cons x_4 l_3 =>
   obtain ⟨c_,hc_11,hL_12⟩:=bind_some hL_12
   refine af (aa (ae (vB (decide ((k_2:Int) < (([(⟨#[112,97]⟩:ByteArray),(⟨#[112,98]⟩:ByteArray),(⟨#[112,99]⟩:ByteArray)]:List ByteArray).length:Int)))) wz rfl (ai ?_)))
   refine af (aB rfl (bv hD_5) (av ?_))
   unfold dX at hc_11
   refine af (aA (af (aa (gL mM rfl rfl (bN hD_5) rfl wz (dn sz9 ag9 rfl (vS x_4) rfl wz (ae (vS x_4) wz rfl (ai (af (aa (ae (.ref (au 0) 0 0) wz rfl ?_))))))))))
   obtain ⟨r_15,hr_16,hc_11⟩:=bind_some hc_11
   refine aM 0 [0] il ft (eY hr_16) rfl ES rfl (by kernel_rfl) (by kernel_rfl) (by kernel_rfl) (by kernel_rfl) (by kernel_rfl) (by kernel_rfl) (by kernel_rfl) (by decide) (by kernel_rfl) wz (vB r_15.1) (by kernel_rfl) ([((au 0),some (.cells 2 [(vL eI r_15.2.L),(vI r_15.2.f_at)])),(n_10,gB 3 Post.enc s_7.1)]:Hp) (by kernel_rfl) (ae (vB (!r_15.1)) wz rfl (ai ?_))
   obtain ⟨v_18,h_19,hc_11⟩:=bind_some hc_11
   refine aC (β:=Nm) (fun (n_20:Nm)=>([(0,(.ref (au 0) 0 0)),(3,(gV n_20 3 v_18.1)),(6,(vL eS ([(⟨#[112,97]⟩:ByteArray),(⟨#[112,98]⟩:ByteArray),(⟨#[112,99]⟩:ByteArray)]:List ByteArray))),(7,(vI (([(⟨#[112,97]⟩:ByteArray),(⟨#[112,98]⟩:ByteArray),(⟨#[112,99]⟩:ByteArray)]:List ByteArray).length:Int))),(8,(vI (k_2:Int)))]:List (Nat×V))) (fun (n_20:Nm)=>([((au 0),some (.cells 2 [(vL eI v_18.2.1),(vI v_18.2.2)])),(n_20,gB 3 Post.enc v_18.1)]:Hp)) (fun _=>True) ?_ ?_
   ·rcases ak h_19 with⟨hc_21,h_19⟩ | ⟨hc_21,h_19⟩
    ·refine aB rfl hc_21 (aa (ae (gV n_10 3 s_7.1) wz rfl (ae (vS x_4) wz rfl (ae (.ref (au 0) 0 0) wz rfl ?_))))
     obtain ⟨r_22,hr_23,h_19⟩:=bind_some h_19
     refine aM 0 [0] il ft (bO hr_23) rfl zk rfl (by kernel_rfl) (by kernel_rfl) (by kernel_rfl) (by kernel_rfl) (by kernel_rfl) (by kernel_rfl) (by kernel_rfl) (by decide) (by kernel_rfl) wz (vI r_22.1) (by kernel_rfl) ([((au 0),some (.cells 2 [(vL eI r_22.2.L),(vI r_22.2.f_at)])),(n_10,gB 3 Post.enc s_7.1)]:Hp) (by kernel_rfl) (ae (.ref (au 0) 0 0) wz rfl ?_)
     obtain ⟨r_25,hr_26,h_19⟩:=bind_some h_19
     refine aM 0 [0] il ft (bO hr_26) rfl zk rfl (by kernel_rfl) (by kernel_rfl) (by kernel_rfl) (by kernel_rfl) (by kernel_rfl) (by kernel_rfl) (by kernel_rfl) (by decide) (by kernel_rfl) wz (vI r_25.1) (by kernel_rfl) ([((au 0),some (.cells 2 [(vL eI r_25.2.L),(vI r_25.2.f_at)])),(n_10,gB 3 Post.enc s_7.1)]:Hp) (by kernel_rfl) (ae (.d (.agg (Post.enc (⟨x_4,r_22.1,r_25.1⟩:Post)))) wz (by kernel_rfl) (dY (([(⟨x_4,r_22.1,r_25.1⟩:Post)]:List Post).map Post.enc) CF ez63 rfl rfl rfl rfl rfl wz ?_))
     obtain ⟨a_28,hz_29,h_19⟩:=bind_some h_19
     refine oL 0 il ft (i:=1) el63 el63 qP z66 rfl (by decide) by66 (by decide) (fun _=>rfl) rfl rfl rfl hz_29 wz (fun n_30=>ae (gV n_30 3 a_28) wz rfl (ai ?_))
     obtain rfl:=ah h_19
     exact aU n_30 trivial rfl (aJ rfl)
    ·refine ax rfl hc_21 (av ?_)
     obtain rfl:=ah h_19
     exact aU n_10 trivial rfl (aJ rfl)
   ·rintro n_20 _ sl_ H_ hp_ hq_
    refine aL _ hp_ hq_ (aa (gQ (bJ hD_5 hn_6) wz rfl (ae (vI ((k_2 + 1:Nat):Int)) wz rfl (ai ?_))))
    obtain rfl:=ah hc_11
    exact aY (k_2 + 1,l_3,(v_18.1,v_18.2.1,v_18.2.2),n_20) ⟨hL_12,aR hD_5⟩ (Nat.lt_succ_self _) rfl (aJ rfl)
 ·rintro ⟨s_7,n_10⟩ ho_ sl_ H_ hp_ hq_
  subst ho_
  refine aL _ hp_ hq_ (af (aa (ae (gV n_10 3 s_7.1) wz rfl (ae (gV n_10 3 s_7.1) wz rfl (ai ?_)))))
  obtain rfl:=ah hF
  exact ay (finG (outs:=([(.cells 2 [(vL eI s_7.2.1),(vI s_7.2.2)])]:List Box)) (.inr rfl) 1 rfl rfl rfl (by kernel_rfl) (by kernel_rfl))
theorem vU {s_1:Stream} {r:(List Post)×Stream} (hF:iL s_1=some r) :
  FnM Tryz.prog 22 [(.ref (au 0) 0 0)] [(.cells 2 [(vL eI s_1.L),(vI s_1.f_at)])] (vL Post.enc r.1) [some (.cells 2 [(vL eI r.2.L),(vI r.2.f_at)])]:=by
 refine FnM.of_wH ⟨Tryz.prog,36,[],[]⟩ rfl Tryz.func22 rfl rfl (Nat.le_of_ble_eq_true rfl) (by kernel_rfl) ?_
 unfold iL at hF
 refine af (aa (ae .nil wz rfl (ai (af (aa (ae (.ref (au 0) 0 0) wz rfl ?_))))))
 obtain ⟨r_2,hr_3,hF⟩:=bind_some hF
 refine GM [0] (pW hr_3) rfl hb39 rfl (by kernel_rfl) (by kernel_rfl) (by kernel_rfl) (by kernel_rfl) (by kernel_rfl) rfl (by decide) (by kernel_rfl) wz ([((au 0),some (.cells 2 [(vL eI r_2.2.L),(vI r_2.2.f_at)]))]:Hp) (fun _=>by kernel_rfl) (fun n_5=>ae (gV n_5 3 r_2.1) wz rfl (ai (af (af ?_))))
 obtain ⟨v_6,h_7,hF⟩:=bind_some hF
 refine aC (β:=Unit) (fun _=>([(0,(.ref (au 0) 0 0)),(3,(gV n_5 3 r_2.1)),(13,(vB v_6.1))]:List (Nat×V))) (fun _=>([((au 0),some (.cells 2 [(vL eI v_6.2.1),(vI v_6.2.2)])),(n_5,gB 3 Post.enc r_2.1)]:Hp)) (fun _=>True) ?_ ?_
 ·refine aa (ae (gV n_5 3 r_2.1) wz rfl (tH FJ rfl wz (ae (vB (decide ((r_2.1.length:Int) > 0))) wz rfl ?_)))
  rcases ak h_7 with⟨hc_8,h_7⟩ | ⟨hc_8,h_7⟩
  ·refine aD rfl hc_8 wz (ae (.ref (au 0) 0 0) wa rfl ?_)
   obtain ⟨r_9,hr_10,h_7⟩:=bind_some h_7
   refine aM 0 [0] il ft (eY hr_10) rfl ES rfl (by kernel_rfl) (by kernel_rfl) (by kernel_rfl) (by kernel_rfl) (by kernel_rfl) (by kernel_rfl) (by kernel_rfl) (by decide) (by kernel_rfl) wa (vB r_9.1) (by kernel_rfl) ([((au 0),some (.cells 2 [(vL eI r_9.2.L),(vI r_9.2.f_at)])),(n_5,gB 3 Post.enc r_2.1)]:Hp) (by kernel_rfl) (ae (vB r_9.1) wz rfl (ai ?_))
   obtain rfl:=ah h_7
   exact cu
  ·refine aD rfl hc_8 wz (aj wa (aj wa (ae (vB false) wz rfl (ai ?_))))
   obtain rfl:=ah h_7
   exact cu
 ·rintro ⟨⟩ _ sl_ H_ hp_ hq_
  refine aL _ hp_ hq_ ?_
  obtain ⟨v_12,h_13,hF⟩:=bind_some hF
  refine aC (β:=Unit) (fun _=>([(3,(gV n_5 3 v_12.1))]:List (Nat×V))) (fun _=>([((au 0),some (.cells 2 [(vL eI v_12.2.1),(vI v_12.2.2)])),(n_5,gB 3 Post.enc v_12.1)]:Hp)) (fun _=>True) ?_ ?_
  ·rcases ak h_13 with⟨hc_14,h_13⟩ | ⟨hc_14,h_13⟩
   ·refine aB rfl hc_14 (af (aa (ae (gV n_5 3 r_2.1) wz rfl (ae (.ref (au 0) 0 0) wz rfl (ae (gV n_5 3 r_2.1) wz rfl (tH FJ rfl wz ?_))))))
    obtain ⟨r_15,hr_16,h_13⟩:=bind_some h_13
    refine aM 0 [0] il ft (dU hr_16) rfl CK rfl (by kernel_rfl) (by kernel_rfl) (by kernel_rfl) (by kernel_rfl) (by kernel_rfl) (by kernel_rfl) (by kernel_rfl) (by decide) (by kernel_rfl) wz (vI r_15.1) (by kernel_rfl) ([((au 0),some (.cells 2 [(vL eI r_15.2.L),(vI r_15.2.f_at)])),(n_5,gB 3 Post.enc r_2.1)]:Hp) (by kernel_rfl) ?_
    obtain ⟨_,hi_18,h_13⟩:=bind_some h_13
    refine tJ CF rfl rfl (iP hi_18) (fO hi_18) wz (ae (.ref n_5 (0 + (r_15.1).toNat) 0) wz rfl (ai (aa (ae (.ref n_5 (0 + (r_15.1).toNat) 0) wz rfl (ae (.ref n_5 (0 + (r_15.1).toNat) 0) wz rfl (ae (.ref (au 0) 0 0) wz rfl (ae (.ref n_5 (0 + (r_15.1).toNat) 0) wz rfl (ae (.ref n_5 (0 + (r_15.1).toNat) 0) wz rfl (aG tZ rfl 0 rfl wz ?_)))))))))
    obtain ⟨e_19,hy_20,h_13⟩:=bind_some h_13
    refine jh 0 1 il ft sz9 ag9 rfl rfl hy_20 (vS e_19.Player) rfl wz (dY (([e_19.Player,(⟨#[]⟩:ByteArray),(⟨#[112,97]⟩:ByteArray)]:List ByteArray).map eS) mM sS rfl rfl rfl rfl rfl wz ?_)
    obtain ⟨r_21,hr_22,h_13⟩:=bind_some h_13
    refine aM 0 [0] il ft (fU hr_22) rfl Ga rfl (by kernel_rfl) (by kernel_rfl) (by kernel_rfl) (by kernel_rfl) (by kernel_rfl) (by kernel_rfl) (by kernel_rfl) (by decide) (by kernel_rfl) wz (vS r_21.1) (by kernel_rfl) ([((au 0),some (.cells 2 [(vL eI r_21.2.L),(vI r_21.2.f_at)])),(n_5,gB 3 Post.enc r_2.1)]:Hp) (by kernel_rfl) (ae (.ref (au 0) 0 0) wz rfl ?_)
    obtain ⟨r_24,hr_25,h_13⟩:=bind_some h_13
    refine aM 0 [0] il ft (dL hr_25) rfl Bd rfl (by kernel_rfl) (by kernel_rfl) (by kernel_rfl) (by kernel_rfl) (by kernel_rfl) (by kernel_rfl) (by kernel_rfl) (by decide) (by kernel_rfl) wz (vI r_24.1) (by kernel_rfl) ([((au 0),some (.cells 2 [(vL eI r_24.2.L),(vI r_24.2.f_at)])),(n_5,gB 3 Post.enc r_2.1)]:Hp) (by kernel_rfl) (ae (.ref n_5 (0 + (r_15.1).toNat) 0) wz rfl (aG tZ rfl 0 rfl wz ?_))
    obtain ⟨e_27,hy_28,h_13⟩:=bind_some h_13
    refine jl 0 il ft 1 sz9 rfl rfl hy_28 (⟨r_21.1,e_27.X,e_27.Y⟩:Post) rfl wz (bC (v':=(gV n_5 3 (r_2.1.set (0 + (r_15.1).toNat) (⟨r_21.1,e_27.X,e_27.Y⟩:Post)))) 3 rfl (bI (by simp)) (bC (v':=(gV n_5 3 (r_2.1.set (0 + (r_15.1).toNat) (⟨r_21.1,e_27.X,e_27.Y⟩:Post)))) 14 rfl (bI (by simp)) (bC (v':=(gV n_5 3 (r_2.1.set (0 + (r_15.1).toNat) (⟨r_21.1,e_27.X,e_27.Y⟩:Post)))) 16 rfl (bI (by simp)) (ae (.ref n_5 (0 + (r_15.1).toNat) 0) wz rfl (aG xG rfl 1 rfl wz ?_)))))
    obtain ⟨e_29,hy_30,h_13⟩:=bind_some h_13
    refine jl 0 il ft 1 sz3 rfl rfl hy_30 (⟨e_29.Player,r_24.1,e_29.Y⟩:Post) rfl wz (bC (v':=(gV n_5 3 ((r_2.1.set (0 + (r_15.1).toNat) (⟨r_21.1,e_27.X,e_27.Y⟩:Post)).set (0 + (r_15.1).toNat) (⟨e_29.Player,r_24.1,e_29.Y⟩:Post)))) 3 rfl (bI (by simp)) (bC (v':=(gV n_5 3 ((r_2.1.set (0 + (r_15.1).toNat) (⟨r_21.1,e_27.X,e_27.Y⟩:Post)).set (0 + (r_15.1).toNat) (⟨e_29.Player,r_24.1,e_29.Y⟩:Post)))) 14 rfl (bI (by simp)) (bC (v':=(gV n_5 3 ((r_2.1.set (0 + (r_15.1).toNat) (⟨r_21.1,e_27.X,e_27.Y⟩:Post)).set (0 + (r_15.1).toNat) (⟨e_29.Player,r_24.1,e_29.Y⟩:Post)))) 16 rfl (bI (by simp)) (ai ?_))))
    obtain rfl:=ah h_13
    exact cu
   ·refine ax rfl hc_14 (av ?_)
    obtain rfl:=ah h_13
    exact cu
  ·rintro ⟨⟩ _ sl_ H_ hp_ hq_
   refine aL _ hp_ hq_ (af (aa (ae (gV n_5 3 v_12.1) wz rfl (ae (gV n_5 3 v_12.1) wz rfl (ai (jq 1 rfl (fQ 2 1 rfl rfl (fQ 3 1 rfl rfl (fQ 35 1 rfl rfl ?_)))))))))
   obtain rfl:=ah hF
   exact ay (rX (.inr rfl) [(vL Post.enc v_12.1)] _ [0] [au 0] ⟨rfl,trivial⟩ (.cons (gN rfl rfl) (.nil)) (by kernel_rfl) ⟨(by kernel_rfl),trivial⟩ (by decide) (by kernel_rfl))
theorem oh {s_1:ByteArray} {r:Bool} (hF:kit_IsKey s_1=some r) :
  FnM Tryz.prog 125 [(vS s_1)] [] (vB r) []:=by
 refine FnM.of_wH ⟨Tryz.prog,48,[],[]⟩ rfl Tryz.func125 rfl rfl (Nat.le_of_ble_eq_true rfl) (by kernel_rfl) ?_
 unfold kit_IsKey at hF
 refine af (aa (ae (vB false) wz rfl (ai (af (af (aa (ae (vI 0) wz rfl (ai ?_))))))))
 obtain ⟨o_10,hj_11,hF⟩:=bind_some hF
 obtain ⟨nq_33,hj_11⟩:=eu hj_11
 refine aC (β:=(Int)) (fun (s_7:Int)=>([(0,(vS s_1))]:List (Nat×V))) (fun (s_7:Int)=>([]:Hp)) (fun p=>o_10 = .go p) ?_ ?_
 ·refine aA (aV (β:=Nat×(Int)) (fun p=>(fun (k_2:Nat) (s_7:Int)=>([(0,(vS s_1)),(3,(vI s_7))]:List (Nat×V))) p.1 p.2) (fun p=>(fun (k_2:Nat) (s_7:Int)=>([]:Hp)) p.1 p.2) (fun p=>iterN (fun s=>iQ s_1 s) p.1 p.2=some o_10) (fun p=>p.1) (nq_33,0) hj_11 rfl (aJ rfl) ?_)
  rintro ⟨k_2,s_7⟩ hL_9
  dsimp only at hL_9
  cases k_2 with
  | zero=>cases hL_9
  | succ k_2 =>
   obtain ⟨c_,hc_8,hL_9⟩:=bind_some hL_9
   unfold iQ at hc_8
   refine af (af (aa (ae (vI s_7) wz rfl (ae (vS s_1) wz rfl (nQ un9 rfl wz (ae (vB (decide (s_7 < (s_1.size:Int)))) wz rfl (ai ?_)))))))
   rcases ak hc_8 with⟨hc_12,hc_8⟩ | ⟨hc_12,hc_8⟩
   ·refine aB rfl hc_12 (av (af (aA (af (aa (ae (vS s_1) wz rfl (ae (vI s_7) wz rfl ?_)))))))
    obtain ⟨b_13,hy_14,hc_8⟩:=bind_some hc_8
    refine pY un9 rfl rfl hy_14 wz (ae (.d (.int .u8 (b_13.toNat:Int))) wz rfl (ai (af ?_)))
    obtain ⟨v_15,h_16,hc_8⟩:=bind_some hc_8
    refine aC (β:=Unit) (fun _=>([(0,(vS s_1)),(3,(vI s_7)),(40,(vB v_15))]:List (Nat×V))) (fun _=>([]:Hp)) (fun _=>True) ?_ ?_
    ·refine aa (ae (.d (.int .u8 (b_13.toNat:Int))) wz rfl (ae (vB (decide ((b_13.toNat:Int)≥97))) wz rfl ?_))
     rcases ak h_16 with⟨hc_17,h_16⟩ | ⟨hc_17,h_16⟩
     ·refine aD rfl hc_17 wz (ae (.d (.int .u8 (b_13.toNat:Int))) wa rfl (ae (vB (decide ((b_13.toNat:Int)≤122))) wa rfl (ae (vB (decide ((b_13.toNat:Int)≤122))) wz rfl ?_)))
      rcases ak h_16 with⟨hc_18,h_16⟩ | ⟨hc_18,h_16⟩
      ·refine aD rfl hc_18 wz (aj wa (aj wa (aj wa (aj (wn rfl rfl) (aj (wn rfl rfl) (aj (wn rfl rfl) (aj (wn rfl rfl) (aj (wn rfl rfl) (aj (wn rfl rfl) (aj (wn rfl rfl) (aj (wn rfl rfl) (aj (wn rfl rfl) (aj (wn rfl rfl) (aj (wn rfl rfl) (aj (wn rfl rfl) (aj (wn rfl rfl) (aj (wn rfl rfl) (aj wa (ae (vB true) wz rfl (ae (vB false) wz rfl (ai ?_)))))))))))))))))))))
       obtain rfl:=ah h_16
       exact cu
      ·refine aD rfl hc_18 wz (ae (vI s_7) wa rfl (ae (vB (decide (s_7 > 0))) wa rfl ?_))
       rcases ak h_16 with⟨hc_19,h_16⟩ | ⟨hc_19,h_16⟩
       ·refine aD rfl hc_19 wa (ae (.d (.int .u8 (b_13.toNat:Int))) wa rfl (ae (vB (decide ((b_13.toNat:Int)≥48))) wa rfl ?_))
        rcases ak h_16 with⟨hc_20,h_16⟩ | ⟨hc_20,h_16⟩
        ·refine aD rfl hc_20 wa (ae (.d (.int .u8 (b_13.toNat:Int))) wa rfl (ae (vB (decide ((b_13.toNat:Int)≤57))) wa rfl (ae (vB (decide ((b_13.toNat:Int)≤57))) wa rfl ?_)))
         rcases ak h_16 with⟨hc_21,h_16⟩ | ⟨hc_21,h_16⟩
         ·refine aD rfl hc_21 wa (aj wa (aj wa (ae (vB true) wa rfl (ae (vB true) wa rfl (aj wa (aj wa (ae (vB true) wa rfl (ae (vB true) wa rfl (ae (vB true) wz rfl (ae (vB false) wz rfl (ai ?_)))))))))))
          obtain rfl:=ah h_16
          exact cu
         ·refine aD rfl hc_21 wa (ae (.d (.int .u8 (b_13.toNat:Int))) wa rfl (ae (vB ((b_13.toNat:Int) == 45)) wa rfl (ae (vB ((b_13.toNat:Int) == 45)) wa rfl ?_)))
          rcases ak h_16 with⟨hc_22,h_16⟩ | ⟨hc_22,h_16⟩
          ·refine aD rfl hc_22 wa (aj wa (aj wa (ae (vB true) wa rfl (ae (vB true) wa rfl (ae (vB true) wz rfl (ae (vB false) wz rfl (ai ?_)))))))
           obtain rfl:=ah h_16
           exact cu
          ·refine aD rfl hc_22 wa (ae (.d (.int .u8 (b_13.toNat:Int))) wa rfl (ae (vB ((b_13.toNat:Int) == 95)) wa rfl (ae (vB ((b_13.toNat:Int) == 95)) wa rfl (ae (vB ((b_13.toNat:Int) == 95)) wa rfl (ae (vB ((b_13.toNat:Int) == 95)) wz rfl (ae (vB (!((b_13.toNat:Int) == 95))) wz rfl (ai ?_)))))))
           obtain rfl:=ah h_16
           exact cu
        ·refine aD rfl hc_20 wa (aj wa (aj wa (ae (vB false) wa rfl (ae (vB false) wa rfl (ae (.d (.int .u8 (b_13.toNat:Int))) wa rfl (ae (vB ((b_13.toNat:Int) == 45)) wa rfl (ae (vB ((b_13.toNat:Int) == 45)) wa rfl ?_)))))))
         rcases ak h_16 with⟨hc_23,h_16⟩ | ⟨hc_23,h_16⟩
         ·refine aD rfl hc_23 wa (aj wa (aj wa (ae (vB true) wa rfl (ae (vB true) wa rfl (ae (vB true) wz rfl (ae (vB false) wz rfl (ai ?_)))))))
          obtain rfl:=ah h_16
          exact cu
         ·refine aD rfl hc_23 wa (ae (.d (.int .u8 (b_13.toNat:Int))) wa rfl (ae (vB ((b_13.toNat:Int) == 95)) wa rfl (ae (vB ((b_13.toNat:Int) == 95)) wa rfl (ae (vB ((b_13.toNat:Int) == 95)) wa rfl (ae (vB ((b_13.toNat:Int) == 95)) wz rfl (ae (vB (!((b_13.toNat:Int) == 95))) wz rfl (ai ?_)))))))
          obtain rfl:=ah h_16
          exact cu
       ·refine aD rfl hc_19 wa (aj wa (aj wa (aj wa (aj (wn rfl rfl) (aj (wn rfl rfl) (aj wa (aj wa (aj (wn rfl rfl) (aj (wn rfl rfl) (aj wa (aj wa (aj (wn rfl rfl) (aj (wn rfl rfl) (aj wa (ae (vB false) wa rfl (ae (vB false) wz rfl (ae (vB true) wz rfl (ai ?_))))))))))))))))))
        obtain rfl:=ah h_16
        exact cu
     ·refine aD rfl hc_17 wz (aj wa (aj wa (ae (vB false) wz rfl (ae (vB false) wz rfl (ae (vI s_7) wa rfl (ae (vB (decide (s_7 > 0))) wa rfl ?_))))))
      rcases ak h_16 with⟨hc_24,h_16⟩ | ⟨hc_24,h_16⟩
      ·refine aD rfl hc_24 wa (ae (.d (.int .u8 (b_13.toNat:Int))) wa rfl (ae (vB (decide ((b_13.toNat:Int)≥48))) wa rfl ?_))
       rcases ak h_16 with⟨hc_25,h_16⟩ | ⟨hc_25,h_16⟩
       ·refine aD rfl hc_25 wa (ae (.d (.int .u8 (b_13.toNat:Int))) wa rfl (ae (vB (decide ((b_13.toNat:Int)≤57))) wa rfl (ae (vB (decide ((b_13.toNat:Int)≤57))) wa rfl ?_)))
        rcases ak h_16 with⟨hc_26,h_16⟩ | ⟨hc_26,h_16⟩
        ·refine aD rfl hc_26 wa (aj wa (aj wa (ae (vB true) wa rfl (ae (vB true) wa rfl (aj wa (aj wa (ae (vB true) wa rfl (ae (vB true) wa rfl (ae (vB true) wz rfl (ae (vB false) wz rfl (ai ?_)))))))))))
         obtain rfl:=ah h_16
         exact cu
        ·refine aD rfl hc_26 wa (ae (.d (.int .u8 (b_13.toNat:Int))) wa rfl (ae (vB ((b_13.toNat:Int) == 45)) wa rfl (ae (vB ((b_13.toNat:Int) == 45)) wa rfl ?_)))
         rcases ak h_16 with⟨hc_27,h_16⟩ | ⟨hc_27,h_16⟩
         ·refine aD rfl hc_27 wa (aj wa (aj wa (ae (vB true) wa rfl (ae (vB true) wa rfl (ae (vB true) wz rfl (ae (vB false) wz rfl (ai ?_)))))))
          obtain rfl:=ah h_16
          exact cu
         ·refine aD rfl hc_27 wa (ae (.d (.int .u8 (b_13.toNat:Int))) wa rfl (ae (vB ((b_13.toNat:Int) == 95)) wa rfl (ae (vB ((b_13.toNat:Int) == 95)) wa rfl (ae (vB ((b_13.toNat:Int) == 95)) wa rfl (ae (vB ((b_13.toNat:Int) == 95)) wz rfl (ae (vB (!((b_13.toNat:Int) == 95))) wz rfl (ai ?_)))))))
          obtain rfl:=ah h_16
          exact cu
       ·refine aD rfl hc_25 wa (aj wa (aj wa (ae (vB false) wa rfl (ae (vB false) wa rfl (ae (.d (.int .u8 (b_13.toNat:Int))) wa rfl (ae (vB ((b_13.toNat:Int) == 45)) wa rfl (ae (vB ((b_13.toNat:Int) == 45)) wa rfl ?_)))))))
        rcases ak h_16 with⟨hc_28,h_16⟩ | ⟨hc_28,h_16⟩
        ·refine aD rfl hc_28 wa (aj wa (aj wa (ae (vB true) wa rfl (ae (vB true) wa rfl (ae (vB true) wz rfl (ae (vB false) wz rfl (ai ?_)))))))
         obtain rfl:=ah h_16
         exact cu
        ·refine aD rfl hc_28 wa (ae (.d (.int .u8 (b_13.toNat:Int))) wa rfl (ae (vB ((b_13.toNat:Int) == 95)) wa rfl (ae (vB ((b_13.toNat:Int) == 95)) wa rfl (ae (vB ((b_13.toNat:Int) == 95)) wa rfl (ae (vB ((b_13.toNat:Int) == 95)) wz rfl (ae (vB (!((b_13.toNat:Int) == 95))) wz rfl (ai ?_)))))))
         obtain rfl:=ah h_16
         exact cu
      ·refine aD rfl hc_24 wa (aj wa (aj wa (aj wa (aj (wn rfl rfl) (aj (wn rfl rfl) (aj wa (aj wa (aj (wn rfl rfl) (aj (wn rfl rfl) (aj wa (aj wa (aj (wn rfl rfl) (aj (wn rfl rfl) (aj wa (ae (vB false) wa rfl (ae (vB false) wz rfl (ae (vB true) wz rfl (ai ?_))))))))))))))))))
       obtain rfl:=ah h_16
       exact cu
    ·rintro ⟨⟩ _ sl_ H_ hp_ hq_
     refine aL _ hp_ hq_ ?_
     rcases ak hc_8 with⟨hc_29,hc_8⟩ | ⟨hc_29,hc_8⟩
     ·refine aB rfl hc_29 (af (aa (ae (vB false) wz rfl (ai ?_))))
      obtain rfl:=ah hc_8
      obtain rfl:=ah hL_9
      obtain rfl:=ah hF
      exact ay (aO (.inr rfl) [(vB false)] ⟨rfl,trivial⟩ rfl rfl rfl)
     ·refine ax rfl hc_29 (av (aa (ae (vI s_7) wz rfl (ae (vI (w64 (s_7 + 1))) wz rfl (ae (vI (w64 (s_7 + 1))) wz rfl (ai ?_))))))
      obtain rfl:=ah hc_8
      exact aY (k_2,(w64 (s_7 + 1))) hL_9 (Nat.lt_succ_self _) rfl (aJ rfl)
   ·refine ax rfl hc_12 (aX ?_)
    obtain rfl:=ah hc_8
    obtain rfl:=ah hL_9
    exact aU (s_7) rfl rfl (aJ rfl)
 ·rintro s_7 ho_ sl_ H_ hp_ hq_
  subst ho_
  refine aL _ hp_ hq_ (af ?_)
  obtain ⟨v_30,h_31,hF⟩:=bind_some hF
  refine aC (β:=Unit) (fun _=>([(2,(vB v_30))]:List (Nat×V))) (fun _=>([]:Hp)) (fun _=>True) ?_ ?_
  ·refine aa (ae (vS s_1) wz rfl (ae (vB (sNe s_1 (⟨#[]⟩:ByteArray))) wz rfl ?_))
   rcases ak h_31 with⟨hc_32,h_31⟩ | ⟨hc_32,h_31⟩
   ·refine aD rfl hc_32 wz (ae (vS s_1) wa rfl (nQ un9 rfl wa (ae (vB (decide ((s_1.size:Int)≤40))) wa rfl (ae (vB (decide ((s_1.size:Int)≤40))) wz rfl (ae (vB (decide ((s_1.size:Int)≤40))) wz rfl (ai ?_))))))
    obtain rfl:=ah h_31
    exact cu
   ·refine aD rfl hc_32 wz (aj wa (aj wa (aj wa (ae (vB false) wz rfl (ae (vB false) wz rfl (ai ?_))))))
    obtain rfl:=ah h_31
    exact cu
  ·rintro ⟨⟩ _ sl_ H_ hp_ hq_
   refine aL _ hp_ hq_ ?_
   obtain rfl:=ah hF
   exact ay (aO (.inr rfl) [(vB v_30)] ⟨rfl,trivial⟩ rfl rfl rfl)
theorem fe {n_1:Int} {low_2:Int} {high_3:Int} {r:Bool} (hF:bW n_1 low_2 high_3=some r) :
  FnM Tryz.prog 84 [(vI n_1),(vI low_2),(vI high_3)] [] (vB r) []:=by
 refine FnM.of_wH ⟨Tryz.prog,15,[],[]⟩ rfl Tryz.func84 rfl rfl (Nat.le_of_ble_eq_true rfl) (by kernel_rfl) ?_
 unfold bW at hF
 refine af (aa (ae (vB false) wz rfl (ai (af ?_))))
 obtain ⟨v_4,h_5,hF⟩:=bind_some hF
 refine aC (β:=Unit) (fun _=>([(6,(vB v_4))]:List (Nat×V))) (fun _=>([]:Hp)) (fun _=>True) ?_ ?_
 ·refine aa (ae (vI n_1) wz rfl (ae (vI low_2) wz rfl (ae (vB (decide (n_1 < low_2))) wz rfl ?_)))
  rcases ak h_5 with⟨hc_6,h_5⟩ | ⟨hc_6,h_5⟩
  ·refine aD rfl hc_6 wz (aj wa (aj wa (aj wa (ae (vB true) wz rfl (ae (vB true) wz rfl (ai ?_))))))
   obtain rfl:=ah h_5
   exact cu
  ·refine aD rfl hc_6 wz (ae (vI n_1) wa rfl (ae (vI high_3) wa rfl (ae (vB (decide (n_1 > high_3))) wa rfl (ae (vB (decide (n_1 > high_3))) wz rfl (ae (vB (decide (n_1 > high_3))) wz rfl (ai ?_))))))
   obtain rfl:=ah h_5
   exact cu
 ·rintro ⟨⟩ _ sl_ H_ hp_ hq_
  refine aL _ hp_ hq_ ?_
  obtain rfl:=ah hF
  exact ay (aO (.inr rfl) [(vB v_4)] ⟨rfl,trivial⟩ rfl rfl rfl)
theorem uW {a_1:Alert} {r:Int} (hF:ib a_1=some r) :
  FnM Tryz.prog 268 [(.d (.agg (Alert.enc a_1)))] [] (vI r) []:=by
 refine FnM.of_wH ⟨Tryz.prog,48,[],[]⟩ rfl Tryz.func268 rfl rfl (Nat.le_of_ble_eq_true rfl) (by kernel_rfl) ?_
 unfold ib at hF
 refine af (aa (eD 0 (.inl rfl) [(vS a_1.Id),(vS a_1.Sender),(vI a_1.Kind),(vL eS a_1.Refs),(vI a_1.At),(vI a_1.Until),(vI a_1.Weight),(vL Rect.enc a_1.Areas),(vS a_1.Text)] rfl rfl wz (fun n_2=>ae (vI 0) wz rfl (ai (af (af (aa (aG jI rfl 3 rfl wz (aF 0 0 il ft uM xk rfl rfl (vL eS a_1.Refs) rfl wz (bZ vv rfl wz (ae (vB (decide ((a_1.Refs.length:Int) > 20))) wz rfl (ai ?_))))))))))))
 rcases ak hF with⟨hc_3,hF⟩ | ⟨hc_3,hF⟩
 ·refine aB rfl hc_3 (af (aa (ae (vI 2) wz rfl (ai ?_))))
  obtain rfl:=ah hF
  exact ay (aO (.inr rfl) [(vI 2)] ⟨rfl,trivial⟩ rfl rfl rfl)
 ·refine ax rfl hc_3 (av (af (af (aa (aG jI rfl 3 rfl wz (aF 0 0 il ft uM xk rfl rfl (vL eS a_1.Refs) rfl wz (bZ vv rfl wz (ae (vI 0) wz rfl (ai ?_)))))))))
  obtain ⟨o_12,hj_13,hF⟩:=bind_some hF
  obtain ⟨hn_8,hj_13⟩:=aZ hj_13
  refine aC (β:=(Unit)) (fun (s_9:Unit)=>([(1,(.ref n_2 0 0))]:List (Nat×V))) (fun (s_9:Unit)=>([(n_2,some (.cells 9 [(vS a_1.Id),(vS a_1.Sender),(vI a_1.Kind),(vL eS a_1.Refs),(vI a_1.At),(vI a_1.Until),(vI a_1.Weight),(vL Rect.enc a_1.Areas),(vS a_1.Text)]))]:Hp)) (fun p=>o_12 = .go p) ?_ ?_
  ·refine aA (aV (β:=Nat×(List ByteArray)×(Unit)) (fun p=>(fun (k_4:Nat) (l_5:List ByteArray) (s_9:Unit)=>([(1,(.ref n_2 0 0)),(10,(vL eS a_1.Refs)),(11,(vI (a_1.Refs.length:Int))),(12,(vI (k_4:Int)))]:List (Nat×V))) p.1 p.2.1 p.2.2) (fun p=>(fun (k_4:Nat) (l_5:List ByteArray) (s_9:Unit)=>([(n_2,some (.cells 9 [(vS a_1.Id),(vS a_1.Sender),(vI a_1.Kind),(vL eS a_1.Refs),(vI a_1.At),(vI a_1.Until),(vI a_1.Weight),(vL Rect.enc a_1.Areas),(vS a_1.Text)]))]:Hp)) p.1 p.2.1 p.2.2) (fun p=>forR (fun k x s=>eB a_1 k x s) p.2.1 p.1 p.2.2=some o_12∧(a_1.Refs).drop p.1=p.2.1) (fun p=>p.2.1.length) (0,a_1.Refs,()) ⟨hj_13,rfl⟩ rfl (aJ rfl) ?_)
   rintro ⟨k_4,l_5,s_9⟩ ⟨hL_11,hD_7⟩
   dsimp only at hL_11 hD_7
   cases l_5 with
   | nil =>
    obtain rfl:=ah hL_11
    refine af (aa (ae (vB (decide ((k_4:Int) < (a_1.Refs.length:Int)))) wz rfl (ai ?_)))
    refine af (ax rfl (drop_nil hD_7) (aX ?_))
    exact aU (s_9) rfl rfl (aJ rfl)
   | cons x_6 l_5 =>
    obtain ⟨c_,hc_10,hL_11⟩:=bind_some hL_11
    refine af (aa (ae (vB (decide ((k_4:Int) < (a_1.Refs.length:Int)))) wz rfl (ai ?_)))
    refine af (aB rfl (bv hD_7) (av ?_))
    unfold eB at hc_10
    refine af (aA (af (aa (ae (vI (k_4:Int)) wz rfl (gL mM rfl rfl (bN hD_7) rfl wz (dn sz9 ag9 rfl (vS x_6) rfl wz (ae (vI (k_4:Int)) wz rfl (ae (vS x_6) wz rfl (ai (aA (af (aa (ae (vS x_6) wz rfl ?_)))))))))))))
    obtain ⟨r_14,hr_15,hc_10⟩:=bind_some hc_10
    refine aH (oh hr_15) rfl GV rfl rfl rfl rfl wz (ae (vB (!r_14)) wz rfl (ae (vB (!r_14)) wz rfl (ai ?_)))
    rcases ak hc_10 with⟨hc_16,hc_10⟩ | ⟨hc_16,hc_10⟩
    ·refine aB rfl hc_16 (af (aa (ae (vI 5) wz rfl (ai ?_))))
     obtain rfl:=ah hc_10
     obtain rfl:=ah hL_11
     obtain rfl:=ah hF
     exact ay (aO (.inr rfl) [(vI 5)] ⟨rfl,trivial⟩ rfl rfl rfl)
    ·refine ax rfl hc_16 (af ?_)
     obtain ⟨v_17,h_18,hc_10⟩:=bind_some hc_10
     refine aC (β:=Unit) (fun _=>([(1,(.ref n_2 0 0)),(4,(vS x_6)),(10,(vL eS a_1.Refs)),(11,(vI (a_1.Refs.length:Int))),(12,(vI (k_4:Int))),(21,(vB v_17))]:List (Nat×V))) (fun _=>([(n_2,some (.cells 9 [(vS a_1.Id),(vS a_1.Sender),(vI a_1.Kind),(vL eS a_1.Refs),(vI a_1.At),(vI a_1.Until),(vI a_1.Weight),(vL Rect.enc a_1.Areas),(vS a_1.Text)]))]:Hp)) (fun _=>True) ?_ ?_
     ·refine aa (ae (vI (k_4:Int)) wz rfl (ae (vB (decide ((k_4:Int) > 0))) wz rfl ?_))
      rcases ak h_18 with⟨hc_19,h_18⟩ | ⟨hc_19,h_18⟩
      ·refine aD rfl hc_19 wz (ae (vS x_6) wa rfl (aG jI rfl 3 rfl wa (aF 0 0 il ft uM xk rfl rfl (vL eS a_1.Refs) rfl wa (ae (vI (k_4:Int)) wa rfl (ae (vI (w64 ((k_4:Int) - 1))) wa rfl ?_)))))
       obtain ⟨y_20,hy_21,h_18⟩:=bind_some h_18
       refine gL mM rfl rfl hy_21 rfl wa (dn sz9 ag9 rfl (vS y_20) rfl wa (ae (vB (sLe x_6 y_20)) wa rfl (ae (vB (sLe x_6 y_20)) wz rfl (ae (vB (sLe x_6 y_20)) wz rfl (ai ?_)))))
       obtain rfl:=ah h_18
       exact cu
      ·refine aD rfl hc_19 wz (aj wa (aj wa (aj wa (aj wa (aj wa (aj wa (aj wa (aj wa (ae (vB false) wz rfl (ae (vB false) wz rfl (ai ?_)))))))))))
       obtain rfl:=ah h_18
       exact cu
     ·rintro ⟨⟩ _ sl_ H_ hp_ hq_
      refine aL _ hp_ hq_ ?_
      rcases ak hc_10 with⟨hc_22,hc_10⟩ | ⟨hc_22,hc_10⟩
      ·refine aB rfl hc_22 (af (aa (ae (vI 7) wz rfl (ai ?_))))
       obtain rfl:=ah hc_10
       obtain rfl:=ah hL_11
       obtain rfl:=ah hF
       exact ay (aO (.inr rfl) [(vI 7)] ⟨rfl,trivial⟩ rfl rfl rfl)
      ·refine ax rfl hc_22 (af (aa (ae (vS x_6) wz rfl (aG eT rfl 0 rfl wz (aF 0 0 il ft sz9 ag9 rfl rfl (vS a_1.Id) rfl wz (ae (vB (sEq x_6 a_1.Id)) wz rfl (ae (vB (sEq x_6 a_1.Id)) wz rfl (ai ?_))))))))
       rcases ak hc_10 with⟨hc_23,hc_10⟩ | ⟨hc_23,hc_10⟩
       ·refine aB rfl hc_23 (af (aa (ae (vI 14) wz rfl (ai ?_))))
        obtain rfl:=ah hc_10
        obtain rfl:=ah hL_11
        obtain rfl:=ah hF
        exact ay (aO (.inr rfl) [(vI 14)] ⟨rfl,trivial⟩ rfl rfl rfl)
       ·refine ax rfl hc_23 (av (aa (gQ (bJ hD_7 hn_8) wz rfl (ae (vI ((k_4 + 1:Nat):Int)) wz rfl (ai ?_)))))
        obtain rfl:=ah hc_10
        exact aY (k_4 + 1,l_5,()) ⟨hL_11,aR hD_7⟩ (Nat.lt_succ_self _) rfl (aJ rfl)
  ·rintro s_9 ho_ sl_ H_ hp_ hq_
   subst ho_
   refine aL _ hp_ hq_ (af (af (aa (aG lL rfl 2 rfl wz (aF 0 0 il ft sz3 ag3 rfl rfl (vI a_1.Kind) rfl wz (ae (vB (a_1.Kind == 1)) wz rfl (aG jI rfl 3 rfl wz (aF 0 0 il ft uM xk rfl rfl (vL eS a_1.Refs) rfl wz (bZ vv rfl wz (ae (vB ((a_1.Refs.length:Int) == 0)) wz rfl (Cm un4 rfl rfl wz (ai ?_))))))))))))
   rcases ak hF with⟨hc_24,hF⟩ | ⟨hc_24,hF⟩
   ·refine aB rfl hc_24 (af (aa (ae (vI 3) wz rfl (ai ?_))))
    obtain rfl:=ah hF
    exact ay (aO (.inr rfl) [(vI 3)] ⟨rfl,trivial⟩ rfl rfl rfl)
   ·refine ax rfl hc_24 (av (af (aa (ae (vI 0) wz rfl (ai ?_)))))
    obtain rfl:=ah hF
    exact ay (aO (.inr rfl) [(vI 0)] ⟨rfl,trivial⟩ rfl rfl rfl)
theorem yB {n_1:Int} {r:Bool} (hF:lc n_1=some r) :
  FnM Tryz.prog 101 [(vI n_1)] [] (vB r) []:=by
 refine FnM.of_wH ⟨Tryz.prog,9,[],[]⟩ rfl Tryz.func101 rfl rfl (Nat.le_of_ble_eq_true rfl) (by kernel_rfl) ?_
 unfold lc at hF
 refine af (aa (ae (vB false) wz rfl (ai (af ?_))))
 obtain ⟨v_2,h_3,hF⟩:=bind_some hF
 refine aC (β:=Unit) (fun _=>([(2,(vB v_2))]:List (Nat×V))) (fun _=>([]:Hp)) (fun _=>True) ?_ ?_
 ·refine aa (ae (vI n_1) wz rfl (ae (vB (decide (n_1≥0))) wz rfl ?_))
  rcases ak h_3 with⟨hc_4,h_3⟩ | ⟨hc_4,h_3⟩
  ·refine aD rfl hc_4 wz (ae (vI n_1) wa rfl (ae (vB (decide (n_1 < 345686400000))) wa rfl (ae (vB (decide (n_1 < 345686400000))) wz rfl (ae (vB (decide (n_1 < 345686400000))) wz rfl (ai ?_)))))
   obtain rfl:=ah h_3
   exact cu
  ·refine aD rfl hc_4 wz (aj wa (aj wa (ae (vB false) wz rfl (ae (vB false) wz rfl (ai ?_)))))
   obtain rfl:=ah h_3
   exact cu
 ·rintro ⟨⟩ _ sl_ H_ hp_ hq_
  refine aL _ hp_ hq_ ?_
  obtain rfl:=ah hF
  exact ay (aO (.inr rfl) [(vB v_2)] ⟨rfl,trivial⟩ rfl rfl rfl)
theorem uL {r_1:Rect} {r:Int} (hF:ja r_1=some r) :
  FnM Tryz.prog 73 [(.d (.agg (Rect.enc r_1)))] [] (vI r) []:=by
 refine FnM.of_wH ⟨Tryz.prog,25,[],[]⟩ rfl Tryz.func73 rfl rfl (Nat.le_of_ble_eq_true rfl) (by kernel_rfl) ?_
 unfold ja at hF
 refine af (aa (eD 0 (.inl rfl) [(vI r_1.X),(vI r_1.Y),(vI r_1.W),(vI r_1.H)] rfl rfl wz (fun n_2=>ae (vI 0) wz rfl (ai (af (af ?_))))))
 obtain ⟨v_3,h_4,hF⟩:=bind_some hF
 refine aC (β:=Unit) (fun _=>([(1,(.ref n_2 0 0)),(10,(vB v_3))]:List (Nat×V))) (fun _=>([(n_2,some (.cells 4 [(vI r_1.X),(vI r_1.Y),(vI r_1.W),(vI r_1.H)]))]:Hp)) (fun _=>True) ?_ ?_
 ·refine aa (aG qW rfl 0 rfl wz (aF 0 0 il ft sz3 ag3 rfl rfl (vI r_1.X) rfl wz ?_))
  obtain ⟨r_5,hr_6,h_4⟩:=bind_some h_4
  refine aH (fe hr_6) rfl A9 rfl rfl rfl rfl wz ?_
  rcases ak h_4 with⟨hc_7,h_4⟩ | ⟨hc_7,h_4⟩
  ·refine aD rfl hc_7 wz (aj wa (aj wa (aj wa (ae (vB true) wz rfl (ai ?_)))))
   obtain rfl:=ah h_4
   exact cu
  ·refine aD rfl hc_7 wz (aG rE rfl 1 rfl wa (aF 0 0 il ft sz3 ag3 rfl rfl (vI r_1.Y) rfl wa ?_))
   obtain ⟨r_8,hr_9,h_4⟩:=bind_some h_4
   refine aH (fe hr_9) rfl A9 rfl rfl rfl rfl wa (ae (vB r_8) wz rfl (ai ?_))
   obtain rfl:=ah h_4
   exact cu
 ·rintro ⟨⟩ _ sl_ H_ hp_ hq_
  refine aL _ hp_ hq_ ?_
  rcases ak hF with⟨hc_10,hF⟩ | ⟨hc_10,hF⟩
  ·refine aB rfl hc_10 (af (aa (ae (vI 1) wz rfl (ai ?_))))
   obtain rfl:=ah hF
   exact ay (aO (.inr rfl) [(vI 1)] ⟨rfl,trivial⟩ rfl rfl rfl)
  ·refine ax rfl hc_10 (av (af (af ?_)))
   obtain ⟨v_11,h_12,hF⟩:=bind_some hF
   refine aC (β:=Unit) (fun _=>([(24,(vB v_11))]:List (Nat×V))) (fun _=>([(n_2,some (.cells 4 [(vI r_1.X),(vI r_1.Y),(vI r_1.W),(vI r_1.H)]))]:Hp)) (fun _=>True) ?_ ?_
   ·refine aa (aG Ap rfl 2 rfl wz (aF 0 0 il ft sz3 ag3 rfl rfl (vI r_1.W) rfl wz (aG qW rfl 0 rfl wz (aF 0 0 il ft sz3 ag3 rfl rfl (vI r_1.X) rfl wz (ae (vI (w64 (100000 - r_1.X))) wz rfl ?_)))))
    obtain ⟨r_13,hr_14,h_12⟩:=bind_some h_12
    refine aH (fe hr_14) rfl A9 rfl rfl rfl rfl wz ?_
    rcases ak h_12 with⟨hc_15,h_12⟩ | ⟨hc_15,h_12⟩
    ·refine aD rfl hc_15 wz (aj wa (aj wa (aj wa (aj wa (aj wa (aj wa (ae (vB true) wz rfl (ai ?_))))))))
     obtain rfl:=ah h_12
     exact cu
    ·refine aD rfl hc_15 wz (aG xA rfl 3 rfl wa (aF 0 0 il ft sz3 ag3 rfl rfl (vI r_1.H) rfl wa (aG rE rfl 1 rfl wa (aF 0 0 il ft sz3 ag3 rfl rfl (vI r_1.Y) rfl wa (ae (vI (w64 (100000 - r_1.Y))) wa rfl ?_)))))
     obtain ⟨r_16,hr_17,h_12⟩:=bind_some h_12
     refine aH (fe hr_17) rfl A9 rfl rfl rfl rfl wa (ae (vB r_16) wz rfl (ai ?_))
     obtain rfl:=ah h_12
     exact cu
   ·rintro ⟨⟩ _ sl_ H_ hp_ hq_
    refine aL _ hp_ hq_ ?_
    rcases ak hF with⟨hc_18,hF⟩ | ⟨hc_18,hF⟩
    ·refine aB rfl hc_18 (af (aa (ae (vI 1) wz rfl (ai ?_))))
     obtain rfl:=ah hF
     exact ay (aO (.inr rfl) [(vI 1)] ⟨rfl,trivial⟩ rfl rfl rfl)
    ·refine ax rfl hc_18 (av (af (aa (ae (vI 0) wz rfl (ai ?_)))))
     obtain rfl:=ah hF
     exact ay (aO (.inr rfl) [(vI 0)] ⟨rfl,trivial⟩ rfl rfl rfl)
theorem ku {x0:ByteArray} {r:Bool} (hF:fo x0=some r) :
  FnM Tryz.prog 208 [(vS x0)] [] (vB r) [] :=
 Jn rfl Tryz.utf8_ValidString II hF
theorem p8 {s_1:ByteArray} {c_2:Int} {r:ByteArray} (hF:strings_trimRightByte s_1 c_2=some r) :
  FnM Tryz.prog 273 [(vS s_1),(.d (.int .u8 c_2))] [] (vS r) []:=by
 refine FnM.of_wH ⟨Tryz.prog,23,[],[]⟩ rfl Tryz.func273 rfl rfl (Nat.le_of_ble_eq_true rfl) (by kernel_rfl) ?_
 unfold strings_trimRightByte at hF
 refine af (aa (ae (vS (⟨#[]⟩:ByteArray)) wz rfl (ai (af ?_))))
 obtain ⟨o_11,hj_12,hF⟩:=bind_some hF
 obtain ⟨nq_21,hj_12⟩:=eu hj_12
 refine aC (β:=(ByteArray)) (fun (s_8:ByteArray)=>([(0,(vS s_8))]:List (Nat×V))) (fun (s_8:ByteArray)=>([]:Hp)) (fun p=>o_11 = .go p) ?_ ?_
 ·refine aA (aV (β:=Nat×(ByteArray)) (fun p=>(fun (k_3:Nat) (s_8:ByteArray)=>([(0,(vS s_8)),(1,(.d (.int .u8 c_2)))]:List (Nat×V))) p.1 p.2) (fun p=>(fun (k_3:Nat) (s_8:ByteArray)=>([]:Hp)) p.1 p.2) (fun p=>iterN (fun s=>gM c_2 s) p.1 p.2=some o_11) (fun p=>p.1) (nq_21,s_1) hj_12 rfl (aJ rfl) ?_)
  rintro ⟨k_3,s_8⟩ hL_10
  dsimp only at hL_10
  cases k_3 with
  | zero=>cases hL_10
  | succ k_3 =>
   obtain ⟨c_,hc_9,hL_10⟩:=bind_some hL_10
   unfold gM at hc_9
   refine af (af ?_)
   obtain ⟨v_13,h_14,hc_9⟩:=bind_some hc_9
   refine aC (β:=Unit) (fun _=>([(0,(vS s_8)),(1,(.d (.int .u8 c_2))),(16,(vB v_13))]:List (Nat×V))) (fun _=>([]:Hp)) (fun _=>True) ?_ ?_
   ·refine aa (ae (vS s_8) wz rfl (nQ un9 rfl wz (ae (vB (decide ((s_8.size:Int) > 0))) wz rfl ?_)))
    rcases ak h_14 with⟨hc_15,h_14⟩ | ⟨hc_15,h_14⟩
    ·refine aD rfl hc_15 wz (ae (vS s_8) wa rfl (ae (vS s_8) wa rfl (nQ un9 rfl wa (ae (vI (w64 ((s_8.size:Int) - 1))) wa rfl ?_))))
     obtain ⟨b_16,hy_17,h_14⟩:=bind_some h_14
     refine pY un9 rfl rfl hy_17 wa (ae (.d (.int .u8 c_2)) wa rfl (ae (vB ((b_16.toNat:Int) == c_2)) wa rfl (ae (vB ((b_16.toNat:Int) == c_2)) wz rfl (ai ?_))))
     obtain rfl:=ah h_14
     exact cu
    ·refine aD rfl hc_15 wz (aj wa (aj wa (aj wa (aj wa (aj wa (aj wa (aj wa (ae (vB false) wz rfl (ai ?_)))))))))
     obtain rfl:=ah h_14
     exact cu
   ·rintro ⟨⟩ _ sl_ H_ hp_ hq_
    refine aL _ hp_ hq_ ?_
    rcases ak hc_9 with⟨hc_18,hc_9⟩ | ⟨hc_18,hc_9⟩
    ·refine aB rfl hc_18 (av (aA (aa (ae (vS s_8) wz rfl (ae (vS s_8) wz rfl (nQ un9 rfl wz (ae (vI (w64 ((s_8.size:Int) - 1))) wz rfl ?_)))))))
     obtain ⟨y_19,hy_20,hc_9⟩:=bind_some hc_9
     refine tC un9 rfl rfl hy_20 wz (ae (vS y_19) wz rfl (ai ?_))
     obtain rfl:=ah hc_9
     exact aY (k_3,y_19) hL_10 (Nat.lt_succ_self _) rfl (aJ rfl)
    ·refine ax rfl hc_18 (aX ?_)
     obtain rfl:=ah hc_9
     obtain rfl:=ah hL_10
     exact aU (s_8) rfl rfl (aJ rfl)
 ·rintro s_8 ho_ sl_ H_ hp_ hq_
  subst ho_
  refine aL _ hp_ hq_ (af (aa (ae (vS s_8) wz rfl (ae (vS s_8) wz rfl (ai ?_)))))
  obtain rfl:=ah hF
  exact ay (aO (.inr rfl) [(vS s_8)] ⟨rfl,trivial⟩ rfl rfl rfl)
theorem qd {s_1:ByteArray} {c_2:Int} {r:ByteArray} (hF:strings_trimLeftByte s_1 c_2=some r) :
  FnM Tryz.prog 272 [(vS s_1),(.d (.int .u8 c_2))] [] (vS r) []:=by
 refine FnM.of_wH ⟨Tryz.prog,17,[],[]⟩ rfl Tryz.func272 rfl rfl (Nat.le_of_ble_eq_true rfl) (by kernel_rfl) ?_
 unfold strings_trimLeftByte at hF
 refine af (aa (ae (vS (⟨#[]⟩:ByteArray)) wz rfl (ai (af ?_))))
 obtain ⟨o_11,hj_12,hF⟩:=bind_some hF
 obtain ⟨nq_21,hj_12⟩:=eu hj_12
 refine aC (β:=(ByteArray)) (fun (s_8:ByteArray)=>([(0,(vS s_8))]:List (Nat×V))) (fun (s_8:ByteArray)=>([]:Hp)) (fun p=>o_11 = .go p) ?_ ?_
 ·refine aA (aV (β:=Nat×(ByteArray)) (fun p=>(fun (k_3:Nat) (s_8:ByteArray)=>([(0,(vS s_8)),(1,(.d (.int .u8 c_2)))]:List (Nat×V))) p.1 p.2) (fun p=>(fun (k_3:Nat) (s_8:ByteArray)=>([]:Hp)) p.1 p.2) (fun p=>iterN (fun s=>gW c_2 s) p.1 p.2=some o_11) (fun p=>p.1) (nq_21,s_1) hj_12 rfl (aJ rfl) ?_)
  rintro ⟨k_3,s_8⟩ hL_10
  dsimp only at hL_10
  cases k_3 with
  | zero=>cases hL_10
  | succ k_3 =>
   obtain ⟨c_,hc_9,hL_10⟩:=bind_some hL_10
   unfold gW at hc_9
   refine af (af ?_)
   obtain ⟨v_13,h_14,hc_9⟩:=bind_some hc_9
   refine aC (β:=Unit) (fun _=>([(0,(vS s_8)),(1,(.d (.int .u8 c_2))),(13,(vB v_13))]:List (Nat×V))) (fun _=>([]:Hp)) (fun _=>True) ?_ ?_
   ·refine aa (ae (vS s_8) wz rfl (nQ un9 rfl wz (ae (vB (decide ((s_8.size:Int) > 0))) wz rfl ?_)))
    rcases ak h_14 with⟨hc_15,h_14⟩ | ⟨hc_15,h_14⟩
    ·refine aD rfl hc_15 wz (ae (vS s_8) wa rfl ?_)
     obtain ⟨b_16,hy_17,h_14⟩:=bind_some h_14
     refine pY un9 rfl rfl hy_17 wa (ae (.d (.int .u8 c_2)) wa rfl (ae (vB ((b_16.toNat:Int) == c_2)) wa rfl (ae (vB ((b_16.toNat:Int) == c_2)) wz rfl (ai ?_))))
     obtain rfl:=ah h_14
     exact cu
    ·refine aD rfl hc_15 wz (aj wa (aj wa (aj wa (aj wa (ae (vB false) wz rfl (ai ?_))))))
     obtain rfl:=ah h_14
     exact cu
   ·rintro ⟨⟩ _ sl_ H_ hp_ hq_
    refine aL _ hp_ hq_ ?_
    rcases ak hc_9 with⟨hc_18,hc_9⟩ | ⟨hc_18,hc_9⟩
    ·refine aB rfl hc_18 (av (aA (aa (ae (vS s_8) wz rfl ?_))))
     obtain ⟨y_19,hy_20,hc_9⟩:=bind_some hc_9
     refine y8 un9 rfl rfl hy_20 wz (ae (vS y_19) wz rfl (ai ?_))
     obtain rfl:=ah hc_9
     exact aY (k_3,y_19) hL_10 (Nat.lt_succ_self _) rfl (aJ rfl)
    ·refine ax rfl hc_18 (aX ?_)
     obtain rfl:=ah hc_9
     obtain rfl:=ah hL_10
     exact aU (s_8) rfl rfl (aJ rfl)
 ·rintro s_8 ho_ sl_ H_ hp_ hq_
  subst ho_
  refine aL _ hp_ hq_ (af (aa (ae (vS s_8) wz rfl (ae (vS s_8) wz rfl (ai ?_)))))
  obtain rfl:=ah hF
  exact ay (aO (.inr rfl) [(vS s_8)] ⟨rfl,trivial⟩ rfl rfl rfl)
theorem rV {s_1:ByteArray} {cutset_2:ByteArray} {r:ByteArray} (hF:lh s_1 cutset_2=some r) :
  FnM Tryz.prog 211 [(vS s_1),(vS cutset_2)] [] (vS r) []:=by
 refine FnM.of_wH ⟨Tryz.prog,43,[],[]⟩ rfl Tryz.func211 rfl rfl (Nat.le_of_ble_eq_true rfl) (by kernel_rfl) ?_
 unfold lh at hF
 refine af (aa (ae (vS (⟨#[]⟩:ByteArray)) wz rfl (ai (af (af ?_)))))
 obtain ⟨v_3,h_4,hF⟩:=bind_some hF
 refine aC (β:=Unit) (fun _=>([(0,(vS s_1)),(1,(vS cutset_2)),(12,(vB v_3))]:List (Nat×V))) (fun _=>([]:Hp)) (fun _=>True) ?_ ?_
 ·refine aa (ae (vS s_1) wz rfl (ae (vB (sEq s_1 (⟨#[]⟩:ByteArray))) wz rfl ?_))
  rcases ak h_4 with⟨hc_5,h_4⟩ | ⟨hc_5,h_4⟩
  ·refine aD rfl hc_5 wz (aj wa (aj wa (ae (vB true) wz rfl (ai ?_))))
   obtain rfl:=ah h_4
   exact cu
  ·refine aD rfl hc_5 wz (ae (vS cutset_2) wa rfl (ae (vB (sEq cutset_2 (⟨#[]⟩:ByteArray))) wa rfl (ae (vB (sEq cutset_2 (⟨#[]⟩:ByteArray))) wz rfl (ai ?_))))
   obtain rfl:=ah h_4
   exact cu
 ·rintro ⟨⟩ _ sl_ H_ hp_ hq_
  refine aL _ hp_ hq_ ?_
  rcases ak hF with⟨hc_6,hF⟩ | ⟨hc_6,hF⟩
  ·refine aB rfl hc_6 (af (aa (ae (vS s_1) wz rfl (ae (vS s_1) wz rfl (ai ?_)))))
   obtain rfl:=ah hF
   exact ay (aO (.inr rfl) [(vS s_1)] ⟨rfl,trivial⟩ rfl rfl rfl)
  ·refine ax rfl hc_6 (av (af (af ?_)))
   obtain ⟨v_7,h_8,hF⟩:=bind_some hF
   refine aC (β:=Unit) (fun _=>([(0,(vS s_1)),(1,(vS cutset_2)),(21,(vB v_7))]:List (Nat×V))) (fun _=>([]:Hp)) (fun _=>True) ?_ ?_
   ·refine aa (ae (vS cutset_2) wz rfl (nQ un9 rfl wz (ae (vB ((cutset_2.size:Int) == 1)) wz rfl ?_)))
    rcases ak h_8 with⟨hc_9,h_8⟩ | ⟨hc_9,h_8⟩
    ·refine aD rfl hc_9 wz (ae (vS cutset_2) wa rfl ?_)
     obtain ⟨b_10,hy_11,h_8⟩:=bind_some h_8
     refine pY un9 rfl rfl hy_11 wa (ae (vB (decide ((b_10.toNat:Int) < 128))) wa rfl (ae (vB (decide ((b_10.toNat:Int) < 128))) wz rfl (ai ?_)))
     obtain rfl:=ah h_8
     exact cu
    ·refine aD rfl hc_9 wz (aj wa (aj wa (aj wa (ae (vB false) wz rfl (ai ?_)))))
     obtain rfl:=ah h_8
     exact cu
   ·rintro ⟨⟩ _ sl_ H_ hp_ hq_
    refine aL _ hp_ hq_ ?_
    rcases ak hF with⟨hc_12,hF⟩ | ⟨hc_12,hF⟩
    ·refine aB rfl hc_12 (af (cK (ae (vS s_1) wz rfl (ae (vS cutset_2) wz rfl ?_))))
     obtain ⟨b_13,hy_14,hF⟩:=bind_some hF
     refine pY un9 rfl rfl hy_14 wz ?_
     obtain ⟨r_15,hr_16,hF⟩:=bind_some hF
     refine aH (p8 hr_16) rfl hb273 rfl rfl rfl rfl wz (ae (vS cutset_2) wz rfl ?_)
     obtain ⟨b_17,hy_18,hF⟩:=bind_some hF
     refine pY un9 rfl rfl hy_18 wz ?_
     obtain ⟨r_19,hr_20,hF⟩:=bind_some hF
     refine aH (qd hr_20) rfl hb272 rfl rfl rfl rfl wz (ae (vS r_19) wz rfl (ai ?_))
     obtain rfl:=ah hF
     exact ay (aO (.inr rfl) [(vS r_19)] ⟨rfl,trivial⟩ rfl rfl rfl)
    ·refine ax rfl hc_12 (av (af (af (aa (ae (vS cutset_2) wz rfl ?_)))))
     cases hF
theorem nZ {x0:ByteArray} {x1:ByteArray} {r:Bool} (hF:strings_Contains x0 x1=some r) :
  FnM Tryz.prog 212 [(vS x0),(vS x1)] [] (vB r) [] :=
 Ea Tryz.strings_Contains DX hF
end Go.Proofs.YtjhcehhmdmbleaaGreatDoor.Law

