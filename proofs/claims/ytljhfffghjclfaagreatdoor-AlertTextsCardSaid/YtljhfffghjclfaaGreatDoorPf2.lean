/-
 The machine computes these plain functions (written by a program of ours).
-/
import Derived.Test.YtljhfffghjclfaaGreatDoorFacts
import Derived.Test.YtljhfffghjclfaaGreatDoorDefs
import Derived.Test.YtljhfffghjclfaaGreatDoorPf1
import Derived.Test.YtljhfffghjclfaaGreatDoorShelf
open Go Go.Eng Go.Proofs
namespace Go.Proofs.YtljhfffghjclfaaGreatDoor.Law
set_option maxRecDepth 100000
set_option linter.unusedVariables false
set_option maxHeartbeats 1000000
theorem vJ {s_1:Stream} {most_2:Int} {r:(List Alert)×Stream} (hF:jf s_1 most_2=some r) :
  FnM Tryz.prog 4 [(.ref (ak 0) 0 0),(vI most_2)] [(.cells 2 [(vL eI s_1.L),(vI s_1.f_at)])] (vL Alert.enc r.1) [some (.cells 2 [(vL eI r.2.L),(vI r.2.f_at)])]:=by
 refine FnM.of_wH ⟨Tryz.prog,99,[],[]⟩ rfl Tryz.func4 rfl rfl (lb_ rfl) (by kernel_rfl) ?_
 unfold jf at hF
 refine ai (aa .nil (ah (ai (aa (.ref (ak 0) 0 0) (aa (vI most_2) ?_)))))
 obtain ⟨r_3,hr_4,hF⟩:=bind_some hF
 refine h_callg [0] (qc hr_4) rfl hb14 rfl (by kernel_rfl) (by kernel_rfl) (by kernel_rfl) (by kernel_rfl) (by kernel_rfl) rfl (by decide) (by kernel_rfl) wz ([((ak 0),some (.cells 2 [(vL eI r_3.2.L),(vI r_3.2.f_at)]))]:Hp) (λ_=>by kernel_rfl) (λn_6=>aa (gV n_6 9 r_3.1) (ah (au (au ?_))))
 obtain ⟨v_7,h_8,hF⟩:=bind_some hF
 refine aN [(0,(.ref (ak 0) 0 0)),(5,(gV n_6 9 r_3.1)),(16,(vB v_7.1))] [((ak 0),some (.cells 2 [(vL eI v_7.2.1),(vI v_7.2.2)])),(n_6,gB 9 Alert.enc r_3.1)] ?_ ?_
 ·refine av (aa (gV n_6 9 r_3.1) (mo oK rfl wz (aa (vB (decide ((r_3.1.length:Int)>0))) ?_)))
  rcases aj h_8 with⟨hc_9,h_8⟩|⟨hc_9,h_8⟩
  ·refine ay rfl hc_9 wz (aH (.ref (ak 0) 0 0) wa rfl ?_)
   obtain ⟨r_10,hr_11,h_8⟩:=bind_some h_8
   refine aS 0 [0] il ft (fu hr_11) rfl IL rfl (by kernel_rfl) (by kernel_rfl) (by kernel_rfl) (by kernel_rfl) (by kernel_rfl) (by kernel_rfl) (by kernel_rfl) (by decide) (by kernel_rfl) wa (vB r_10.1) (by kernel_rfl) ([((ak 0),some (.cells 2 [(vL eI r_10.2.L),(vI r_10.2.f_at)])),(n_6,gB 9 Alert.enc r_3.1)]:Hp) (by kernel_rfl) (aa (vB r_10.1) (ah ?_))
   obtain rfl:=ae h_8
   exact cu
  ·refine ay rfl hc_9 wz (af (af (aa (vB false) (ah ?_))))
   obtain rfl:=ae h_8
   exact cu
 ·rintro ⟨⟩ _ sl_ H_ hp_ hq_
  refine aP _ hp_ hq_ ?_
  obtain ⟨v_13,h_14,hF⟩:=bind_some hF
  refine aN [(5,(gV n_6 9 v_13.1))] [((ak 0),some (.cells 2 [(vL eI v_13.2.1),(vI v_13.2.2)])),(n_6,gB 9 Alert.enc v_13.1)] ?_ ?_
  ·rcases aj h_14 with⟨hc_15,h_14⟩|⟨hc_15,h_14⟩
   ·refine aC rfl hc_15 (ai (aa (gV n_6 9 r_3.1) (aa (.ref (ak 0) 0 0) (aa (gV n_6 9 r_3.1) (mo oK rfl wz ?_)))))
    obtain ⟨r_16,hr_17,h_14⟩:=bind_some h_14
    refine aS 0 [0] il ft (cK hr_17) rfl BP rfl (by kernel_rfl) (by kernel_rfl) (by kernel_rfl) (by kernel_rfl) (by kernel_rfl) (by kernel_rfl) (by kernel_rfl) (by decide) (by kernel_rfl) wz (vI r_16.1) (by kernel_rfl) ([((ak 0),some (.cells 2 [(vL eI r_16.2.L),(vI r_16.2.f_at)])),(n_6,gB 9 Alert.enc r_3.1)]:Hp) (by kernel_rfl) ?_
    obtain ⟨_,hi_19,h_14⟩:=bind_some h_14
    refine uI lJ rfl rfl (qA hi_19) (mg hi_19) wz (aa (.ref n_6 (0+(r_16.1).toNat) 0) (ah (ai (aa (.ref (ak 0) 0 0) ?_))))
    obtain ⟨r_20,hr_21,h_14⟩:=bind_some h_14
    refine aS 0 [0] il ft (cK hr_21) rfl BP rfl (by kernel_rfl) (by kernel_rfl) (by kernel_rfl) (by kernel_rfl) (by kernel_rfl) (by kernel_rfl) (by kernel_rfl) (by decide) (by kernel_rfl) wz (vI r_20.1) (by kernel_rfl) ([((ak 0),some (.cells 2 [(vL eI r_20.2.L),(vI r_20.2.f_at)])),(n_6,gB 9 Alert.enc r_3.1)]:Hp) (by kernel_rfl) (ah (aR (ai (aa (vB (r_20.1==0)) (aa (vB (r_20.1==0)) (ah ?_))))))
    rcases aj h_14 with⟨hc_23,h_14⟩|⟨hc_23,h_14⟩
    ·refine aC rfl hc_23 (av (aa (.ref n_6 (0+(r_16.1).toNat) 0) (aa (.ref n_6 (0+(r_16.1).toNat) 0) (aa (.ref (ak 0) 0 0) (aa (.ref n_6 (0+(r_16.1).toNat) 0) (aa (.ref n_6 (0+(r_16.1).toNat) 0) (aG jT rfl 0 rfl wz ?_)))))))
     obtain ⟨e_24,hy_25,h_14⟩:=bind_some h_14
     refine yS 0 1 il ft sz9 ag9 rfl rfl hy_25 (vS e_24.Id) rfl wz (di (([e_24.Id,(⟨#[]⟩:ByteArray),(⟨#[97,97]⟩:ByteArray)]:List ByteArray).map eS) fO nE rfl rfl rfl rfl rfl wz ?_)
     obtain ⟨r_26,hr_27,h_14⟩:=bind_some h_14
     refine aS 0 [0] il ft (dD hr_27) rfl Cr rfl (by kernel_rfl) (by kernel_rfl) (by kernel_rfl) (by kernel_rfl) (by kernel_rfl) (by kernel_rfl) (by kernel_rfl) (by decide) (by kernel_rfl) wz (vS r_26.1) (by kernel_rfl) ([((ak 0),some (.cells 2 [(vL eI r_26.2.L),(vI r_26.2.f_at)])),(n_6,gB 9 Alert.enc r_3.1)]:Hp) (by kernel_rfl) (aa (.ref (ak 0) 0 0) (di (([(⟨#[119,120]⟩:ByteArray),(⟨#[65]⟩:ByteArray)]:List ByteArray).map eS) fO nE rfl rfl rfl rfl rfl wz ?_))
     obtain ⟨r_29,hr_30,h_14⟩:=bind_some h_14
     refine aS 0 [0] il ft (dD hr_30) rfl Cr rfl (by kernel_rfl) (by kernel_rfl) (by kernel_rfl) (by kernel_rfl) (by kernel_rfl) (by kernel_rfl) (by kernel_rfl) (by decide) (by kernel_rfl) wz (vS r_29.1) (by kernel_rfl) ([((ak 0),some (.cells 2 [(vL eI r_29.2.L),(vI r_29.2.f_at)])),(n_6,gB 9 Alert.enc r_3.1)]:Hp) (by kernel_rfl) (aa (.ref n_6 (0+(r_16.1).toNat) 0) (aG jT rfl 0 rfl wz ?_))
     obtain ⟨e_32,hy_33,h_14⟩:=bind_some h_14
     refine pU 0 il ft 1 sz9 rfl rfl hy_33 (⟨r_26.1,e_32.Sender,e_32.Kind,e_32.Refs,e_32.At,e_32.Until,e_32.Weight,e_32.Areas,e_32.Text⟩:Alert) rfl wz (fq (v':=(gV n_6 9 (r_3.1.set (0+(r_16.1).toNat) (⟨r_26.1,e_32.Sender,e_32.Kind,e_32.Refs,e_32.At,e_32.Until,e_32.Weight,e_32.Areas,e_32.Text⟩:Alert)))) 5 rfl (cB (by simp)) (fq (v':=(gV n_6 9 (r_3.1.set (0+(r_16.1).toNat) (⟨r_26.1,e_32.Sender,e_32.Kind,e_32.Refs,e_32.At,e_32.Until,e_32.Weight,e_32.Areas,e_32.Text⟩:Alert)))) 17 rfl (cB (by simp)) (fq (v':=(gV n_6 9 (r_3.1.set (0+(r_16.1).toNat) (⟨r_26.1,e_32.Sender,e_32.Kind,e_32.Refs,e_32.At,e_32.Until,e_32.Weight,e_32.Areas,e_32.Text⟩:Alert)))) 19 rfl (cB (by simp)) (aa (.ref n_6 (0+(r_16.1).toNat) 0) (aG Bo rfl 1 rfl wz ?_)))))
     obtain ⟨e_34,hy_35,h_14⟩:=bind_some h_14
     refine pU 0 il ft 1 sz9 rfl rfl hy_35 (⟨e_34.Id,r_29.1,e_34.Kind,e_34.Refs,e_34.At,e_34.Until,e_34.Weight,e_34.Areas,e_34.Text⟩:Alert) rfl wz (fq (v':=(gV n_6 9 ((r_3.1.set (0+(r_16.1).toNat) (⟨r_26.1,e_32.Sender,e_32.Kind,e_32.Refs,e_32.At,e_32.Until,e_32.Weight,e_32.Areas,e_32.Text⟩:Alert)).set (0+(r_16.1).toNat) (⟨e_34.Id,r_29.1,e_34.Kind,e_34.Refs,e_34.At,e_34.Until,e_34.Weight,e_34.Areas,e_34.Text⟩:Alert)))) 5 rfl (cB (by simp)) (fq (v':=(gV n_6 9 ((r_3.1.set (0+(r_16.1).toNat) (⟨r_26.1,e_32.Sender,e_32.Kind,e_32.Refs,e_32.At,e_32.Until,e_32.Weight,e_32.Areas,e_32.Text⟩:Alert)).set (0+(r_16.1).toNat) (⟨e_34.Id,r_29.1,e_34.Kind,e_34.Refs,e_34.At,e_34.Until,e_34.Weight,e_34.Areas,e_34.Text⟩:Alert)))) 17 rfl (cB (by simp)) (fq (v':=(gV n_6 9 ((r_3.1.set (0+(r_16.1).toNat) (⟨r_26.1,e_32.Sender,e_32.Kind,e_32.Refs,e_32.At,e_32.Until,e_32.Weight,e_32.Areas,e_32.Text⟩:Alert)).set (0+(r_16.1).toNat) (⟨e_34.Id,r_29.1,e_34.Kind,e_34.Refs,e_34.At,e_34.Until,e_34.Weight,e_34.Areas,e_34.Text⟩:Alert)))) 19 rfl (cB (by simp)) (ah ?_))))
     obtain rfl:=ae h_14
     exact cu
    ·refine aB rfl hc_23 (ai (aa (vB (r_20.1==1)) (aa (vB (r_20.1==1)) (ah ?_))))
     rcases aj h_14 with⟨hc_36,h_14⟩|⟨hc_36,h_14⟩
     ·refine aC rfl hc_36 (av (aa (.ref n_6 (0+(r_16.1).toNat) 0) (aa (.ref (ak 0) 0 0) ?_)))
      obtain ⟨r_37,hr_38,h_14⟩:=bind_some h_14
      refine aS 0 [0] il ft (gm hr_38) rfl IX rfl (by kernel_rfl) (by kernel_rfl) (by kernel_rfl) (by kernel_rfl) (by kernel_rfl) (by kernel_rfl) (by kernel_rfl) (by decide) (by kernel_rfl) wz (vI r_37.1) (by kernel_rfl) ([((ak 0),some (.cells 2 [(vL eI r_37.2.L),(vI r_37.2.f_at)])),(n_6,gB 9 Alert.enc r_3.1)]:Hp) (by kernel_rfl) (aa (.ref n_6 (0+(r_16.1).toNat) 0) (aG mr rfl 2 rfl wz ?_))
      obtain ⟨e_40,hy_41,h_14⟩:=bind_some h_14
      refine pU 0 il ft 1 sz3 rfl rfl hy_41 (⟨e_40.Id,e_40.Sender,r_37.1,e_40.Refs,e_40.At,e_40.Until,e_40.Weight,e_40.Areas,e_40.Text⟩:Alert) rfl wz (fq (v':=(gV n_6 9 (r_3.1.set (0+(r_16.1).toNat) (⟨e_40.Id,e_40.Sender,r_37.1,e_40.Refs,e_40.At,e_40.Until,e_40.Weight,e_40.Areas,e_40.Text⟩:Alert)))) 5 rfl (cB (by simp)) (fq (v':=(gV n_6 9 (r_3.1.set (0+(r_16.1).toNat) (⟨e_40.Id,e_40.Sender,r_37.1,e_40.Refs,e_40.At,e_40.Until,e_40.Weight,e_40.Areas,e_40.Text⟩:Alert)))) 17 rfl (cB (by simp)) (fq (v':=(gV n_6 9 (r_3.1.set (0+(r_16.1).toNat) (⟨e_40.Id,e_40.Sender,r_37.1,e_40.Refs,e_40.At,e_40.Until,e_40.Weight,e_40.Areas,e_40.Text⟩:Alert)))) 19 rfl (cB (by simp)) (ah ?_))))
      obtain rfl:=ae h_14
      exact cu
     ·refine aB rfl hc_36 (ai (aa (vB (r_20.1==2)) (aa (vB (r_20.1==2)) (ah ?_))))
      rcases aj h_14 with⟨hc_42,h_14⟩|⟨hc_42,h_14⟩
      ·refine aC rfl hc_42 (bQ (aa (.ref n_6 (0+(r_16.1).toNat) 0) (di (([(⟨#[97,98]⟩:ByteArray),(⟨#[97,97]⟩:ByteArray)]:List ByteArray).map eS) fO nE rfl rfl rfl rfl rfl wz (aa (.ref n_6 (0+(r_16.1).toNat) 0) (aa (.ref n_6 (0+(r_16.1).toNat) 0) (aG jT rfl 0 rfl wz ?_))))))
       obtain ⟨e_43,hy_44,h_14⟩:=bind_some h_14
       refine yS 5 1 (.inr (by kernel_rfl)) (λ_ _ ag=>trivial) sz9 ag9 rfl rfl hy_44 (vS e_43.Id) rfl wz (di (([e_43.Id]:List ByteArray).map eS) fO nE rfl rfl rfl rfl rfl wz (di (([(⟨#[65]⟩:ByteArray)]:List ByteArray).map eS) fO nE rfl rfl rfl rfl rfl wz (di (([(⟨#[97,97]⟩:ByteArray),(⟨#[122,122]⟩:ByteArray)]:List ByteArray).map eS) fO nE rfl rfl rfl rfl rfl wz (di (([([]:List ByteArray),([(⟨#[97,98]⟩:ByteArray),(⟨#[97,97]⟩:ByteArray)]:List ByteArray),([e_43.Id]:List ByteArray),([(⟨#[65]⟩:ByteArray)]:List ByteArray),([(⟨#[97,97]⟩:ByteArray),(⟨#[122,122]⟩:ByteArray)]:List ByteArray)]:List (List ByteArray)).map (eL eS)) es49 ez49 rfl rfl rfl rfl rfl wz (aa (.ref (ak 0) 0 0) ?_)))))
       obtain ⟨r_45,hr_46,h_14⟩:=bind_some h_14
       refine aS 11 [0] (.inr (by kernel_rfl)) (λ_ _ ag=>by exact⟨.inr (.inl (K9 (CJ ag (i:=0) (j:=1) rfl rfl (by decide)))),trivial⟩) (cK hr_46) rfl BP rfl (by kernel_rfl) (by kernel_rfl) (by kernel_rfl) (by kernel_rfl) (by kernel_rfl) (by kernel_rfl) (by kernel_rfl) (by decide) (by kernel_rfl) wz (vI r_45.1) (by kernel_rfl) ([((ak 0),some (.cells 2 [(vL eI r_45.2.L),(vI r_45.2.f_at)])),(n_6,gB 9 Alert.enc r_3.1)]:Hp) (by kernel_rfl) ?_
       obtain ⟨y_48,hy_49,h_14⟩:=bind_some h_14
       refine eD es49 rfl rfl hy_49 rfl wz (bK oI uP rfl (vL eS y_48) rfl wz (aa (.ref n_6 (0+(r_16.1).toNat) 0) (aG iK rfl 3 rfl wz ?_)))
       obtain ⟨e_50,hy_51,h_14⟩:=bind_some h_14
       refine pU 16 (.inr (by kernel_rfl)) (λ_ _ ag=>⟨.inr (.inr (by kernel_rfl)),⟨.inr (.inr (by kernel_rfl)),trivial⟩⟩) 1 oI rfl rfl hy_51 (⟨e_50.Id,e_50.Sender,e_50.Kind,y_48,e_50.At,e_50.Until,e_50.Weight,e_50.Areas,e_50.Text⟩:Alert) rfl wz (fq (v':=(gV n_6 9 (r_3.1.set (0+(r_16.1).toNat) (⟨e_50.Id,e_50.Sender,e_50.Kind,y_48,e_50.At,e_50.Until,e_50.Weight,e_50.Areas,e_50.Text⟩:Alert)))) 5 rfl (cB (by simp)) (fq (v':=(gV n_6 9 (r_3.1.set (0+(r_16.1).toNat) (⟨e_50.Id,e_50.Sender,e_50.Kind,y_48,e_50.At,e_50.Until,e_50.Weight,e_50.Areas,e_50.Text⟩:Alert)))) 17 rfl (cB (by simp)) (fq (v':=(gV n_6 9 (r_3.1.set (0+(r_16.1).toNat) (⟨e_50.Id,e_50.Sender,e_50.Kind,y_48,e_50.At,e_50.Until,e_50.Weight,e_50.Areas,e_50.Text⟩:Alert)))) 19 rfl (cB (by simp)) (ah ?_))))
       obtain rfl:=ae h_14
       exact cu
      ·refine aB rfl hc_42 (ai (aa (vB (r_20.1==3)) (aa (vB (r_20.1==3)) (ah ?_))))
       rcases aj h_14 with⟨hc_52,h_14⟩|⟨hc_52,h_14⟩
       ·refine aC rfl hc_52 (av (aa (.ref n_6 (0+(r_16.1).toNat) 0) (aa (.ref n_6 (0+(r_16.1).toNat) 0) (aa (.ref (ak 0) 0 0) ?_))))
        obtain ⟨r_53,hr_54,h_14⟩:=bind_some h_14
        refine aS 0 [0] il ft (gm hr_54) rfl IX rfl (by kernel_rfl) (by kernel_rfl) (by kernel_rfl) (by kernel_rfl) (by kernel_rfl) (by kernel_rfl) (by kernel_rfl) (by decide) (by kernel_rfl) wz (vI r_53.1) (by kernel_rfl) ([((ak 0),some (.cells 2 [(vL eI r_53.2.L),(vI r_53.2.f_at)])),(n_6,gB 9 Alert.enc r_3.1)]:Hp) (by kernel_rfl) (aa (.ref (ak 0) 0 0) ?_)
        obtain ⟨r_56,hr_57,h_14⟩:=bind_some h_14
        refine aS 0 [0] il ft (gm hr_57) rfl IX rfl (by kernel_rfl) (by kernel_rfl) (by kernel_rfl) (by kernel_rfl) (by kernel_rfl) (by kernel_rfl) (by kernel_rfl) (by decide) (by kernel_rfl) wz (vI r_56.1) (by kernel_rfl) ([((ak 0),some (.cells 2 [(vL eI r_56.2.L),(vI r_56.2.f_at)])),(n_6,gB 9 Alert.enc r_3.1)]:Hp) (by kernel_rfl) (aa (.ref n_6 (0+(r_16.1).toNat) 0) (aG jb rfl 4 rfl wz ?_))
        obtain ⟨e_59,hy_60,h_14⟩:=bind_some h_14
        refine pU 0 il ft 1 sz3 rfl rfl hy_60 (⟨e_59.Id,e_59.Sender,e_59.Kind,e_59.Refs,r_53.1,e_59.Until,e_59.Weight,e_59.Areas,e_59.Text⟩:Alert) rfl wz (fq (v':=(gV n_6 9 (r_3.1.set (0+(r_16.1).toNat) (⟨e_59.Id,e_59.Sender,e_59.Kind,e_59.Refs,r_53.1,e_59.Until,e_59.Weight,e_59.Areas,e_59.Text⟩:Alert)))) 5 rfl (cB (by simp)) (fq (v':=(gV n_6 9 (r_3.1.set (0+(r_16.1).toNat) (⟨e_59.Id,e_59.Sender,e_59.Kind,e_59.Refs,r_53.1,e_59.Until,e_59.Weight,e_59.Areas,e_59.Text⟩:Alert)))) 17 rfl (cB (by simp)) (fq (v':=(gV n_6 9 (r_3.1.set (0+(r_16.1).toNat) (⟨e_59.Id,e_59.Sender,e_59.Kind,e_59.Refs,r_53.1,e_59.Until,e_59.Weight,e_59.Areas,e_59.Text⟩:Alert)))) 19 rfl (cB (by simp)) (aa (.ref n_6 (0+(r_16.1).toNat) 0) (aG wC rfl 5 rfl wz ?_)))))
        obtain ⟨e_61,hy_62,h_14⟩:=bind_some h_14
        refine pU 0 il ft 1 sz3 rfl rfl hy_62 (⟨e_61.Id,e_61.Sender,e_61.Kind,e_61.Refs,e_61.At,r_56.1,e_61.Weight,e_61.Areas,e_61.Text⟩:Alert) rfl wz (fq (v':=(gV n_6 9 ((r_3.1.set (0+(r_16.1).toNat) (⟨e_59.Id,e_59.Sender,e_59.Kind,e_59.Refs,r_53.1,e_59.Until,e_59.Weight,e_59.Areas,e_59.Text⟩:Alert)).set (0+(r_16.1).toNat) (⟨e_61.Id,e_61.Sender,e_61.Kind,e_61.Refs,e_61.At,r_56.1,e_61.Weight,e_61.Areas,e_61.Text⟩:Alert)))) 5 rfl (cB (by simp)) (fq (v':=(gV n_6 9 ((r_3.1.set (0+(r_16.1).toNat) (⟨e_59.Id,e_59.Sender,e_59.Kind,e_59.Refs,r_53.1,e_59.Until,e_59.Weight,e_59.Areas,e_59.Text⟩:Alert)).set (0+(r_16.1).toNat) (⟨e_61.Id,e_61.Sender,e_61.Kind,e_61.Refs,e_61.At,r_56.1,e_61.Weight,e_61.Areas,e_61.Text⟩:Alert)))) 17 rfl (cB (by simp)) (fq (v':=(gV n_6 9 ((r_3.1.set (0+(r_16.1).toNat) (⟨e_59.Id,e_59.Sender,e_59.Kind,e_59.Refs,r_53.1,e_59.Until,e_59.Weight,e_59.Areas,e_59.Text⟩:Alert)).set (0+(r_16.1).toNat) (⟨e_61.Id,e_61.Sender,e_61.Kind,e_61.Refs,e_61.At,r_56.1,e_61.Weight,e_61.Areas,e_61.Text⟩:Alert)))) 19 rfl (cB (by simp)) (ah ?_))))
        obtain rfl:=ae h_14
        exact cu
       ·refine aB rfl hc_52 (ai (aa (vB (r_20.1==4)) (aa (vB (r_20.1==4)) (ah ?_))))
        rcases aj h_14 with⟨hc_63,h_14⟩|⟨hc_63,h_14⟩
        ·refine aC rfl hc_63 (av (aa (.ref n_6 (0+(r_16.1).toNat) 0) (aa (.ref n_6 (0+(r_16.1).toNat) 0) (aa (.ref (ak 0) 0 0) ?_))))
         obtain ⟨r_64,hr_65,h_14⟩:=bind_some h_14
         refine aS 0 [0] il ft (wh hr_65) rfl hb19 rfl (by kernel_rfl) (by kernel_rfl) (by kernel_rfl) (by kernel_rfl) (by kernel_rfl) (by kernel_rfl) (by kernel_rfl) (by decide) (by kernel_rfl) wz (vL Rect.enc r_64.1) (by kernel_rfl) ([((ak 0),some (.cells 2 [(vL eI r_64.2.L),(vI r_64.2.f_at)])),(n_6,gB 9 Alert.enc r_3.1)]:Hp) (by kernel_rfl) (aa (.ref (ak 0) 0 0) ?_)
         obtain ⟨r_67,hr_68,h_14⟩:=bind_some h_14
         refine aS 0 [0] il ft (gm hr_68) rfl IX rfl (by kernel_rfl) (by kernel_rfl) (by kernel_rfl) (by kernel_rfl) (by kernel_rfl) (by kernel_rfl) (by kernel_rfl) (by decide) (by kernel_rfl) wz (vI r_67.1) (by kernel_rfl) ([((ak 0),some (.cells 2 [(vL eI r_67.2.L),(vI r_67.2.f_at)])),(n_6,gB 9 Alert.enc r_3.1)]:Hp) (by kernel_rfl) (aa (.ref n_6 (0+(r_16.1).toNat) 0) (aG jE rfl 7 rfl wz ?_))
         obtain ⟨e_70,hy_71,h_14⟩:=bind_some h_14
         refine pU 0 il ft 1 rR rfl rfl hy_71 (⟨e_70.Id,e_70.Sender,e_70.Kind,e_70.Refs,e_70.At,e_70.Until,e_70.Weight,r_64.1,e_70.Text⟩:Alert) rfl wz (fq (v':=(gV n_6 9 (r_3.1.set (0+(r_16.1).toNat) (⟨e_70.Id,e_70.Sender,e_70.Kind,e_70.Refs,e_70.At,e_70.Until,e_70.Weight,r_64.1,e_70.Text⟩:Alert)))) 5 rfl (cB (by simp)) (fq (v':=(gV n_6 9 (r_3.1.set (0+(r_16.1).toNat) (⟨e_70.Id,e_70.Sender,e_70.Kind,e_70.Refs,e_70.At,e_70.Until,e_70.Weight,r_64.1,e_70.Text⟩:Alert)))) 17 rfl (cB (by simp)) (fq (v':=(gV n_6 9 (r_3.1.set (0+(r_16.1).toNat) (⟨e_70.Id,e_70.Sender,e_70.Kind,e_70.Refs,e_70.At,e_70.Until,e_70.Weight,r_64.1,e_70.Text⟩:Alert)))) 19 rfl (cB (by simp)) (aa (.ref n_6 (0+(r_16.1).toNat) 0) (aG Aw rfl 6 rfl wz ?_)))))
         obtain ⟨e_72,hy_73,h_14⟩:=bind_some h_14
         refine pU 0 il ft 1 sz3 rfl rfl hy_73 (⟨e_72.Id,e_72.Sender,e_72.Kind,e_72.Refs,e_72.At,e_72.Until,r_67.1,e_72.Areas,e_72.Text⟩:Alert) rfl wz (fq (v':=(gV n_6 9 ((r_3.1.set (0+(r_16.1).toNat) (⟨e_70.Id,e_70.Sender,e_70.Kind,e_70.Refs,e_70.At,e_70.Until,e_70.Weight,r_64.1,e_70.Text⟩:Alert)).set (0+(r_16.1).toNat) (⟨e_72.Id,e_72.Sender,e_72.Kind,e_72.Refs,e_72.At,e_72.Until,r_67.1,e_72.Areas,e_72.Text⟩:Alert)))) 5 rfl (cB (by simp)) (fq (v':=(gV n_6 9 ((r_3.1.set (0+(r_16.1).toNat) (⟨e_70.Id,e_70.Sender,e_70.Kind,e_70.Refs,e_70.At,e_70.Until,e_70.Weight,r_64.1,e_70.Text⟩:Alert)).set (0+(r_16.1).toNat) (⟨e_72.Id,e_72.Sender,e_72.Kind,e_72.Refs,e_72.At,e_72.Until,r_67.1,e_72.Areas,e_72.Text⟩:Alert)))) 17 rfl (cB (by simp)) (fq (v':=(gV n_6 9 ((r_3.1.set (0+(r_16.1).toNat) (⟨e_70.Id,e_70.Sender,e_70.Kind,e_70.Refs,e_70.At,e_70.Until,e_70.Weight,r_64.1,e_70.Text⟩:Alert)).set (0+(r_16.1).toNat) (⟨e_72.Id,e_72.Sender,e_72.Kind,e_72.Refs,e_72.At,e_72.Until,r_67.1,e_72.Areas,e_72.Text⟩:Alert)))) 19 rfl (cB (by simp)) (ah ?_))))
         obtain rfl:=ae h_14
         exact cu
        ·refine aB rfl hc_63 (av (aa (.ref n_6 (0+(r_16.1).toNat) 0) (aa (.ref (ak 0) 0 0) (di (([(⟨#[]⟩:ByteArray),(⟨#[32,120]⟩:ByteArray),(⟨#[97,32,32,98]⟩:ByteArray),(⟨#[10]⟩:ByteArray),(⟨#[255]⟩:ByteArray)]:List ByteArray).map eS) fO nE rfl rfl rfl rfl rfl wz ?_))))
         obtain ⟨r_74,hr_75,h_14⟩:=bind_some h_14
         refine aS 0 [0] il ft (dD hr_75) rfl Cr rfl (by kernel_rfl) (by kernel_rfl) (by kernel_rfl) (by kernel_rfl) (by kernel_rfl) (by kernel_rfl) (by kernel_rfl) (by decide) (by kernel_rfl) wz (vS r_74.1) (by kernel_rfl) ([((ak 0),some (.cells 2 [(vL eI r_74.2.L),(vI r_74.2.f_at)])),(n_6,gB 9 Alert.enc r_3.1)]:Hp) (by kernel_rfl) (aa (.ref n_6 (0+(r_16.1).toNat) 0) (aG kC rfl 8 rfl wz ?_))
         obtain ⟨e_77,hy_78,h_14⟩:=bind_some h_14
         refine pU 0 il ft 1 sz9 rfl rfl hy_78 (⟨e_77.Id,e_77.Sender,e_77.Kind,e_77.Refs,e_77.At,e_77.Until,e_77.Weight,e_77.Areas,r_74.1⟩:Alert) rfl wz (fq (v':=(gV n_6 9 (r_3.1.set (0+(r_16.1).toNat) (⟨e_77.Id,e_77.Sender,e_77.Kind,e_77.Refs,e_77.At,e_77.Until,e_77.Weight,e_77.Areas,r_74.1⟩:Alert)))) 5 rfl (cB (by simp)) (fq (v':=(gV n_6 9 (r_3.1.set (0+(r_16.1).toNat) (⟨e_77.Id,e_77.Sender,e_77.Kind,e_77.Refs,e_77.At,e_77.Until,e_77.Weight,e_77.Areas,r_74.1⟩:Alert)))) 17 rfl (cB (by simp)) (fq (v':=(gV n_6 9 (r_3.1.set (0+(r_16.1).toNat) (⟨e_77.Id,e_77.Sender,e_77.Kind,e_77.Refs,e_77.At,e_77.Until,e_77.Weight,e_77.Areas,r_74.1⟩:Alert)))) 19 rfl (cB (by simp)) (ah ?_))))
         obtain rfl:=ae h_14
         exact cu
   ·refine aB rfl hc_15 (aA ?_)
    obtain rfl:=ae h_14
    exact cu
  ·rintro ⟨⟩ _ sl_ H_ hp_ hq_
   refine aP _ hp_ hq_ (ai (aa (gV n_6 9 v_13.1) (aa (gV n_6 9 v_13.1) (ah (iW 1 rfl (ji 4 1 rfl rfl (ji 5 1 rfl rfl (ji 98 1 rfl rfl ?_))))))))
   obtain rfl:=ae hF
   exact ax (rD (.inr rfl) [(vL Alert.enc v_13.1)] _ [0] [ak 0] ⟨rfl,trivial⟩ (.cons (fB rfl rfl) (.nil)) (by kernel_rfl) ⟨(by kernel_rfl),trivial⟩ (by decide) (by kernel_rfl))
theorem qx {r:(List ByteArray)} (hF:iG  = some r) :
  FnM Tryz.prog 30 [] [] (vL eS r) []:=by
 refine FnM.of_wH ⟨Tryz.prog,2,[],[]⟩ rfl Tryz.func30 rfl rfl (lb_ rfl) (by kernel_rfl) ?_
 unfold iG at hF
 refine ai (aa .nil (ah (ai (di (([(⟨#[]⟩:ByteArray),(⟨#[110,101,119]⟩:ByteArray),(⟨#[117,112,100,97,116,101]⟩:ByteArray),(⟨#[99,97,110,99,101,108]⟩:ByteArray)]:List ByteArray).map eS) fO nE rfl rfl rfl rfl rfl wz (aa (vL eS ([(⟨#[]⟩:ByteArray),(⟨#[110,101,119]⟩:ByteArray),(⟨#[117,112,100,97,116,101]⟩:ByteArray),(⟨#[99,97,110,99,101,108]⟩:ByteArray)]:List ByteArray)) (ah ?_))))))
 obtain rfl:=ae hF
 exact ax (aK [(vL eS ([(⟨#[]⟩:ByteArray),(⟨#[110,101,119]⟩:ByteArray),(⟨#[117,112,100,97,116,101]⟩:ByteArray),(⟨#[99,97,110,99,101,108]⟩:ByteArray)]:List ByteArray))] ⟨rfl,trivial⟩)
theorem ow {x0:Int} {r:ByteArray} (hF:strconv_Itoa x0=some r) :
  FnM Tryz.prog 46 [(vI x0)] [] (vS r) [] :=
 itoa_ok Tryz.strconv_Itoa Hf hF
theorem zx {x0:(List ByteArray)} {x1:ByteArray} {r:ByteArray} (hF:strings_Join x0 x1=some r) :
  FnM Tryz.prog 54 [(vL eS x0),(vS x1)] [] (vS r) [] :=
 join_ok rfl Tryz.strings_Join_none Tryz.strings_Join hF
theorem uQ {l_1:(List Int)} {r:ByteArray} (hF:kG l_1=some r) :
  FnM Tryz.prog 31 [(vL eI l_1)] [] (vS r) []:=by
 refine FnM.of_wH ⟨Tryz.prog,20,[],[]⟩ rfl Tryz.func31 rfl rfl (lb_ rfl) (by kernel_rfl) ?_
 unfold kG at hF
 refine ai (aa (vS (⟨#[]⟩:ByteArray)) (ah (ai (aa .nil (ah (au (ai (aa (vL eI l_1) (dz IA rfl wz (aa (vI 0) (ah (ni (λn_8 => ?_)))))))))))))
 obtain ⟨o_13,hj_14,hF⟩:=bind_some hF
 obtain ⟨hn_6,hj_14⟩:=bu hj_14
 refine iZ (σ:=(List ByteArray)) (N:=Nm) (λp=>(λ(s_7:List ByteArray) (n_10:Nm)=>([(3,(gV n_10 1 s_7))]:SL_)) p.1 p.2) (λp=>(λ(s_7:List ByteArray) (n_10:Nm)=>([(n_10,gB 1 eS s_7)]:Hp)) p.1 p.2) (λ(k_2:Nat)=>(λp=>(λ(s_7:List ByteArray) (n_10:Nm)=>([(3,(gV n_10 1 s_7)),(6,(vL eI l_1)),(7,(vI (l_1.length:Int))),(8,(vI (k_2:Int)))]:SL_)) p.1 p.2)) (λk x s=>jm k x s) o_13 l_1 (([]:List ByteArray),n_8) hj_14 rfl (aM rfl) ?_ ?_
 ·rintro ⟨k_2,l_3,s_7,n_10⟩ ⟨hL_12,hD_5⟩
  dsimp only at hL_12 hD_5
  cases l_3 with
  | nil =>
   obtain rfl:=ae hL_12
   refine ai (aa (vB (decide ((k_2:Int)<(l_1.length:Int)))) (ah ?_))
   refine au (aB rfl (drop_nil hD_5) (bO ?_))
   exact bD (s_7,n_10) rfl rfl (aM rfl)
  | cons x_4 l_3 =>
   obtain ⟨c_,hc_11,hL_12⟩:=bind_some hL_12
   refine ai (aa (vB (decide ((k_2:Int)<(l_1.length:Int)))) (ah ?_))
   refine au (aC rfl (bL hD_5) (aA ?_))
   unfold jm at hc_11
   refine au (aR (ai (eD jZ rfl rfl (dh hD_5) rfl wz (bK sz3 ag3 rfl (vI x_4) rfl wz (aa (vI x_4) (ah (av (aa (gV n_10 1 s_7) (aa (vI x_4) ?_)))))))))
   obtain ⟨r_15,hr_16,hc_11⟩:=bind_some hc_11
   refine aD (ow hr_16) rfl hb46 rfl rfl rfl rfl wz (di (([r_15]:List ByteArray).map eS) fO nE rfl rfl rfl rfl rfl wz ?_)
   obtain ⟨a_17,hz_18,hc_11⟩:=bind_some hc_11
   refine lS 0 il ft (i:=0) Cu Cu sz9 z9 rfl (by decide) by9 (by decide) (λ_=>rfl) rfl rfl rfl hz_18 wz (λn_19=>aa (gV n_19 1 a_17) (ah (av (gY (cZ hD_5 hn_6) wz rfl (aa (vI ((k_2+1:Nat):Int)) (ah ?_))))))
   obtain rfl:=ae hc_11
   exact bN (k_2+1,l_3,a_17,n_19) ⟨hL_12,bn hD_5⟩ (ls_ _) rfl (aM rfl)
 ·rintro ⟨s_7,n_10⟩ ho_ sl_ H_ hp_ hq_
  subst ho_
  refine aP _ hp_ hq_ (au (iW 0 rfl (ji 3 0 rfl rfl (av (aa (vL eS s_7) ?_)))))
  obtain ⟨r_20,hr_21,hF⟩:=bind_some hF
  refine aD (zx hr_21) rfl hb54 rfl rfl rfl rfl wz (aa (vS r_20) (ah ?_))
  obtain rfl:=ae hF
  exact ax (aK [(vS r_20)] ⟨rfl,trivial⟩)
theorem jW {l_1:(List Alert)} {r:ByteArray} (hF:fF l_1=some r) :
  FnM Tryz.prog 8 [(vL Alert.enc l_1)] [] (vS r) []:=by
 refine FnM.of_wH ⟨Tryz.prog,89,[],[]⟩ rfl Tryz.func8 rfl rfl (lb_ rfl) (by kernel_rfl) ?_
 unfold fF at hF
 refine ai (aa (vS (⟨#[]⟩:ByteArray)) (ah (ai (aa (vS (⟨#[]⟩:ByteArray)) (ah (au (ai (aa (vL Alert.enc l_1) (dz oK rfl wz (aa (vI 0) (ah ?_)))))))))))
 obtain ⟨o_10,hj_11,hF⟩:=bind_some hF
 obtain ⟨hn_6,hj_11⟩:=bu hj_11
 refine dU (λ(s_7:ByteArray)=>[(3,(vS s_7))]) (λ(s_7:ByteArray)=>[]) (λ(k_2:Nat)=>(λ(s_7:ByteArray)=>[(3,(vS s_7)),(10,(vL Alert.enc l_1)),(11,(vI (l_1.length:Int))),(12,(vI (k_2:Int)))])) (λk x s=>gH k x s) o_10 l_1 (⟨#[]⟩:ByteArray) hj_11 rfl (aM rfl) ?_ ?_
 ·rintro ⟨k_2,l_3,s_7⟩ ⟨hL_9,hD_5⟩
  dsimp only at hL_9 hD_5
  cases l_3 with
  | nil =>
   obtain rfl:=ae hL_9
   refine ai (aa (vB (decide ((k_2:Int)<(l_1.length:Int)))) (ah ?_))
   refine au (aB rfl (drop_nil hD_5) (bO ?_))
   exact bD (s_7) rfl rfl (aM rfl)
  | cons x_4 l_3 =>
   obtain ⟨c_,hc_8,hL_9⟩:=bind_some hL_9
   refine ai (aa (vB (decide ((k_2:Int)<(l_1.length:Int)))) (ah ?_))
   refine au (aC rfl (bL hD_5) (aA ?_))
   unfold gH at hc_8
   refine au (aR (ai (eD lJ rfl rfl (dh hD_5) rfl wz (bK iT mQ rfl (.d (.agg (Alert.enc x_4))) rfl wz (gN 0 (.inl rfl) z40 rfl wz (λn_12=>fe 0 il ft 0 iT rfl rfl (Alert.v x_4) rfl wz (ah (au (bQ (aa (vS s_7) (aG jT rfl 0 rfl wz (aI 2 0 (.inr (by kernel_rfl)) (λ_ _ ag=>trivial) sz9 ag9 rfl rfl (vS x_4.Id) rfl wz ?_))))))))))))
   obtain ⟨s_13,hz_14,hc_8⟩:=bind_some hc_8
   refine gq rfl rfl hz_14 wz ?_
   obtain ⟨s_15,hz_16,hc_8⟩:=bind_some hc_8
   refine gq rfl rfl hz_16 wz (aG Bo rfl 1 rfl wz (aI 6 0 (.inr (by kernel_rfl)) (λ_ _ ag=>⟨.inl ⟨rfl,rfl⟩,trivial⟩) sz9 ag9 rfl rfl (vS x_4.Sender) rfl wz ?_))
   obtain ⟨s_17,hz_18,hc_8⟩:=bind_some hc_8
   refine gq rfl rfl hz_18 wz ?_
   obtain ⟨s_19,hz_20,hc_8⟩:=bind_some hc_8
   refine gq rfl rfl hz_20 wz ?_
   obtain ⟨r_21,hr_22,hc_8⟩:=bind_some hc_8
   refine aD (qx hr_22) rfl hb30 rfl rfl rfl rfl wz (aG mr rfl 2 rfl wz (aI 11 0 (.inr (by kernel_rfl)) (λ_ _ ag=>⟨.inl ⟨rfl,rfl⟩,⟨.inl ⟨rfl,rfl⟩,trivial⟩⟩) sz3 ag3 rfl rfl (vI x_4.Kind) rfl wz ?_))
   obtain ⟨y_23,hy_24,hc_8⟩:=bind_some hc_8
   refine eD fO rfl rfl hy_24 rfl wz (bK sz9 ag9 rfl (vS y_23) rfl wz ?_)
   obtain ⟨s_25,hz_26,hc_8⟩:=bind_some hc_8
   refine gq rfl rfl hz_26 wz ?_
   obtain ⟨s_27,hz_28,hc_8⟩:=bind_some hc_8
   refine gq rfl rfl hz_28 wz (aG jb rfl 4 rfl wz (aI 17 0 (.inr (by kernel_rfl)) (λ_ _ ag=>⟨.inl ⟨rfl,rfl⟩,⟨.inl ⟨rfl,rfl⟩,⟨.inl ⟨rfl,rfl⟩,trivial⟩⟩⟩) sz3 ag3 rfl rfl (vI x_4.At) rfl wz (aG wC rfl 5 rfl wz (aI 19 0 (.inr (by kernel_rfl)) (λ_ _ ag=>⟨.inl ⟨rfl,rfl⟩,⟨.inl ⟨rfl,rfl⟩,⟨.inl ⟨rfl,rfl⟩,⟨.inl ⟨rfl,rfl⟩,trivial⟩⟩⟩⟩) sz3 ag3 rfl rfl (vI x_4.Until) rfl wz (aG Aw rfl 6 rfl wz (aI 21 0 (.inr (by kernel_rfl)) (λ_ _ ag=>⟨.inl ⟨rfl,rfl⟩,⟨.inl ⟨rfl,rfl⟩,⟨.inl ⟨rfl,rfl⟩,⟨.inl ⟨rfl,rfl⟩,⟨.inl ⟨rfl,rfl⟩,trivial⟩⟩⟩⟩⟩) sz3 ag3 rfl rfl (vI x_4.Weight) rfl wz (di (([x_4.At,x_4.Until,x_4.Weight]:List Int).map eI) jZ uy rfl rfl rfl rfl rfl wz ?_)))))))
   obtain ⟨r_29,hr_30,hc_8⟩:=bind_some hc_8
   refine aD (uQ hr_30) rfl hb31 rfl rfl rfl rfl wz ?_
   obtain ⟨s_31,hz_32,hc_8⟩:=bind_some hc_8
   refine gq rfl rfl hz_32 wz ?_
   obtain ⟨s_33,hz_34,hc_8⟩:=bind_some hc_8
   refine gq rfl rfl hz_34 wz ?_
   obtain ⟨s_35,hz_36,hc_8⟩:=bind_some hc_8
   refine gq rfl rfl hz_36 wz (aa (vS s_35) (ah (aP (H0:=([(n_12,some (.cells 9 (Alert.v x_4)))]:Hp)) ([(3,(vS s_35)),(5,(.ref n_12 0 0)),(10,(vL Alert.enc l_1)),(11,(vI (l_1.length:Int))),(12,(vI (k_2:Int)))]:SL_) (by kernel_rfl) (qb (by kernel_rfl)) (au (ai (aG iK rfl 3 rfl wz (aI 0 0 il ft oI uP rfl rfl (vL eS x_4.Refs) rfl wz (dz kQ rfl wz (aa (vI 0) (ah ?_))))))))))
   obtain ⟨o_45,hj_46,hc_8⟩:=bind_some hc_8
   obtain ⟨hn_41,hj_46⟩:=bu hj_46
   refine dU (λ(s_42:ByteArray)=>[(3,(vS s_42)),(5,(.ref n_12 0 0)),(10,(vL Alert.enc l_1)),(11,(vI (l_1.length:Int))),(12,(vI (k_2:Int)))]) (λ(s_42:ByteArray)=>[(n_12,some (.cells 9 (Alert.v x_4)))]) (λ(k_37:Nat)=>(λ(s_42:ByteArray)=>[(3,(vS s_42)),(5,(.ref n_12 0 0)),(10,(vL Alert.enc l_1)),(11,(vI (l_1.length:Int))),(12,(vI (k_2:Int))),(44,(vL eS x_4.Refs)),(45,(vI (x_4.Refs.length:Int))),(46,(vI (k_37:Int)))])) (λk x s=>gL k x s) o_45 x_4.Refs s_35 hj_46 rfl (aM rfl) ?_ ?_
   ·rintro ⟨k_37,l_38,s_42⟩ ⟨hL_44,hD_40⟩
    dsimp only at hL_44 hD_40
    cases l_38 with
    | nil =>
     obtain rfl:=ae hL_44
     refine ai (aa (vB (decide ((k_37:Int)<(x_4.Refs.length:Int)))) (ah ?_))
     refine au (aB rfl (drop_nil hD_40) (bO ?_))
     exact bD (s_42) rfl rfl (aM rfl)
    | cons x_39 l_38 =>
     obtain ⟨c_,hc_43,hL_44⟩:=bind_some hL_44
     refine ai (aa (vB (decide ((k_37:Int)<(x_4.Refs.length:Int)))) (ah ?_))
     refine au (aC rfl (bL hD_40) (aA ?_))
     unfold gL at hc_43
     refine au (aR (ai (eD fO rfl rfl (dh hD_40) rfl wz (bK sz9 ag9 rfl (vS x_39) rfl wz (aa (vS x_39) (ah (av (aa (vS s_42) (aa (vS x_39) ?_)))))))))
     obtain ⟨s_47,hz_48,hc_43⟩:=bind_some hc_43
     refine gq rfl rfl hz_48 wz ?_
     obtain ⟨s_49,hz_50,hc_43⟩:=bind_some hc_43
     refine gq rfl rfl hz_50 wz ?_
     obtain ⟨s_51,hz_52,hc_43⟩:=bind_some hc_43
     refine gq rfl rfl hz_52 wz (aa (vS s_51) (ah (av (gY (cZ hD_40 hn_41) wz rfl (aa (vI ((k_37+1:Nat):Int)) (ah ?_))))))
     obtain rfl:=ae hc_43
     exact bN (k_37+1,l_38,s_51) ⟨hL_44,bn hD_40⟩ (ls_ _) rfl (aM rfl)
   ·rintro s_42 ho_ sl_ H_ hp_ hq_
    subst ho_
    refine aP _ hp_ hq_ (au (ai (aG jE rfl 7 rfl wz (aI 0 0 il ft rR xZ rfl rfl (vL Rect.enc x_4.Areas) rfl wz (dz Cx rfl wz (aa (vI 0) (ah ?_)))))))
    obtain ⟨o_61,hj_62,hc_8⟩:=bind_some hc_8
    obtain ⟨hn_57,hj_62⟩:=bu hj_62
    refine dU (λ(s_58:ByteArray)=>[(3,(vS s_58)),(5,(.ref n_12 0 0)),(10,(vL Alert.enc l_1)),(11,(vI (l_1.length:Int))),(12,(vI (k_2:Int)))]) (λ(s_58:ByteArray)=>[(n_12,some (.cells 9 (Alert.v x_4)))]) (λ(k_53:Nat)=>(λ(s_58:ByteArray)=>[(3,(vS s_58)),(5,(.ref n_12 0 0)),(10,(vL Alert.enc l_1)),(11,(vI (l_1.length:Int))),(12,(vI (k_2:Int))),(57,(vL Rect.enc x_4.Areas)),(58,(vI (x_4.Areas.length:Int))),(59,(vI (k_53:Int)))])) (λk x s=>gJ k x s) o_61 x_4.Areas s_42 hj_62 rfl (aM rfl) ?_ ?_
    ·rintro ⟨k_53,l_54,s_58⟩ ⟨hL_60,hD_56⟩
     dsimp only at hL_60 hD_56
     cases l_54 with
     | nil =>
      obtain rfl:=ae hL_60
      refine ai (aa (vB (decide ((k_53:Int)<(x_4.Areas.length:Int)))) (ah ?_))
      refine au (aB rfl (drop_nil hD_56) (bO ?_))
      exact bD (s_58) rfl rfl (aM rfl)
     | cons x_55 l_54 =>
      obtain ⟨c_,hc_59,hL_60⟩:=bind_some hL_60
      refine ai (aa (vB (decide ((k_53:Int)<(x_4.Areas.length:Int)))) (ah ?_))
      refine au (aC rfl (bL hD_56) (aA ?_))
      unfold gJ at hc_59
      refine au (aR (ai (eD Au rfl rfl (dh hD_56) rfl wz (bK nW Aj rfl (.d (.agg (Rect.enc x_55))) rfl wz (gN 0 (.inl rfl) z64 rfl wz (λn_63=>fe 0 il ft 1 nW rfl rfl (Rect.v x_55) rfl wz (ah (av (aa (vS s_58) (aG rZ rfl 0 rfl wz (aI 0 1 il ft sz3 ag3 rfl rfl (vI x_55.X) rfl wz (aG sI rfl 1 rfl wz (aI 0 1 il ft sz3 ag3 rfl rfl (vI x_55.Y) rfl wz (aG yG rfl 2 rfl wz (aI 0 1 il ft sz3 ag3 rfl rfl (vI x_55.W) rfl wz (aG wy rfl 3 rfl wz (aI 0 1 il ft sz3 ag3 rfl rfl (vI x_55.H) rfl wz (di (([x_55.X,x_55.Y,x_55.W,x_55.H]:List Int).map eI) jZ uy rfl rfl rfl rfl rfl wz ?_))))))))))))))))))
      obtain ⟨r_64,hr_65,hc_59⟩:=bind_some hc_59
      refine aD (uQ hr_65) rfl hb31 rfl rfl rfl rfl wz ?_
      obtain ⟨s_66,hz_67,hc_59⟩:=bind_some hc_59
      refine gq rfl rfl hz_67 wz ?_
      obtain ⟨s_68,hz_69,hc_59⟩:=bind_some hc_59
      refine gq rfl rfl hz_69 wz ?_
      obtain ⟨s_70,hz_71,hc_59⟩:=bind_some hc_59
      refine gq rfl rfl hz_71 wz (aa (vS s_70) (ah (av (gY (cZ hD_56 hn_57) wz rfl (aa (vI ((k_53+1:Nat):Int)) (ah ?_))))))
      obtain rfl:=ae hc_59
      exact bN (k_53+1,l_54,s_70) ⟨hL_60,bn hD_56⟩ (ls_ _) rfl (aM rfl)
    ·rintro s_58 ho_ sl_ H_ hp_ hq_
     subst ho_
     refine aP _ hp_ hq_ (ai (aG kC rfl 8 rfl wz (aI 0 0 il ft sz9 ag9 rfl rfl (vS x_4.Text) rfl wz (aa (vB (sNe x_4.Text (⟨#[]⟩:ByteArray))) (ah ?_)))))
     obtain ⟨v_72,h_73,hc_8⟩:=bind_some hc_8
     refine aN [(3,(vS v_72)),(10,(vL Alert.enc l_1)),(11,(vI (l_1.length:Int))),(12,(vI (k_2:Int)))] [(n_12,some (.cells 9 (Alert.v x_4)))] ?_ ?_
     ·rcases aj h_73 with⟨hc_74,h_73⟩|⟨hc_74,h_73⟩
      ·refine aC rfl hc_74 (av (aa (vS s_58) (aG kC rfl 8 rfl wz (aI 0 0 il ft sz9 ag9 rfl rfl (vS x_4.Text) rfl wz ?_))))
       obtain ⟨s_75,hz_76,h_73⟩:=bind_some h_73
       refine gq rfl rfl hz_76 wz ?_
       obtain ⟨s_77,hz_78,h_73⟩:=bind_some h_73
       refine gq rfl rfl hz_78 wz ?_
       obtain ⟨s_79,hz_80,h_73⟩:=bind_some h_73
       refine gq rfl rfl hz_80 wz (aa (vS s_79) (ah ?_))
       obtain rfl:=ae h_73
       exact cu
      ·refine aB rfl hc_74 (aA ?_)
       obtain rfl:=ae h_73
       exact cu
     ·rintro ⟨⟩ _ sl_ H_ hp_ hq_
      refine aP _ hp_ hq_ (av (gY (cZ hD_5 hn_6) wz rfl (aa (vI ((k_2+1:Nat):Int)) (ah ?_))))
      obtain rfl:=ae hc_8
      exact bN (k_2+1,l_3,v_72) ⟨hL_9,bn hD_5⟩ (ls_ _) rfl (aM rfl)
 ·rintro s_7 ho_ sl_ H_ hp_ hq_
  subst ho_
  refine aP _ hp_ hq_ (ai (aa (vS s_7) (aa (vS s_7) (ah ?_))))
  obtain rfl:=ae hF
  exact ax (aK [(vS s_7)] ⟨rfl,trivial⟩)
theorem ut {s_1:Stream} {t_2:ByteArray} {withv_3:ByteArray} {r:ByteArray×Stream} (hF:gD s_1 t_2 withv_3=some r) :
  FnM Tryz.prog 21 [(.ref (ak 0) 0 0),(vS t_2),(vS withv_3)] [(.cells 2 [(vL eI s_1.L),(vI s_1.f_at)])] (vS r.1) [some (.cells 2 [(vL eI r.2.L),(vI r.2.f_at)])]:=by
 refine FnM.of_wH ⟨Tryz.prog,63,[],[]⟩ rfl Tryz.func21 rfl rfl (lb_ rfl) (by kernel_rfl) ?_
 unfold gD at hF
 refine ai (aa (vS (⟨#[]⟩:ByteArray)) (ah (au (au ?_))))
 obtain ⟨v_4,h_5,hF⟩:=bind_some hF
 refine aN [(0,(.ref (ak 0) 0 0)),(1,(vS t_2)),(2,(vS withv_3)),(14,(vB v_4))] [((ak 0),some (.cells 2 [(vL eI s_1.L),(vI s_1.f_at)]))] ?_ ?_
 ·refine av (aa (vS t_2) (aa (vB (sEq t_2 (⟨#[]⟩:ByteArray))) ?_))
  rcases aj h_5 with⟨hc_6,h_5⟩|⟨hc_6,h_5⟩
  ·refine ay rfl hc_6 wz (af (af (aa (vB true) (ah ?_))))
   obtain rfl:=ae h_5
   exact cu
  ·refine ay rfl hc_6 wz (aH (vS withv_3) wa rfl (aH (vB (sEq withv_3 (⟨#[]⟩:ByteArray))) wa rfl (aa (vB (sEq withv_3 (⟨#[]⟩:ByteArray))) (ah ?_))))
   obtain rfl:=ae h_5
   exact cu
 ·rintro ⟨⟩ _ sl_ H_ hp_ hq_
  refine aP _ hp_ hq_ ?_
  rcases aj hF with⟨hc_7,hF⟩|⟨hc_7,hF⟩
  ·refine aC rfl hc_7 (ai (aa (vS withv_3) (aa (vS withv_3) (ah ?_))))
   obtain rfl:=ae hF
   exact ax (rD (.inr rfl) [(vS withv_3)] _ [0] [ak 0] ⟨rfl,trivial⟩ (.cons (fB rfl rfl) (.nil)) (by kernel_rfl) ⟨(by kernel_rfl),trivial⟩ (by decide) (by kernel_rfl))
  ·refine aB rfl hc_7 (aA (ai (aa (.ref (ak 0) 0 0) (aa (vS t_2) (iU un9 rfl wz ?_)))))
   obtain ⟨r_8,hr_9,hF⟩:=bind_some hF
   refine aS 0 [0] il ft (cK hr_9) rfl BP rfl (by kernel_rfl) (by kernel_rfl) (by kernel_rfl) (by kernel_rfl) (by kernel_rfl) (by kernel_rfl) (by kernel_rfl) (by decide) (by kernel_rfl) wz (vI r_8.1) (by kernel_rfl) ([((ak 0),some (.cells 2 [(vL eI r_8.2.L),(vI r_8.2.f_at)]))]:Hp) (by kernel_rfl) (aa (vI r_8.1) (ah (ai (aa (vS withv_3) (aa (.ref (ak 0) 0 0) (aa (vS withv_3) (iU un9 rfl wz ?_)))))))
   obtain ⟨r_11,hr_12,hF⟩:=bind_some hF
   refine aS 0 [0] il ft (cK hr_12) rfl BP rfl (by kernel_rfl) (by kernel_rfl) (by kernel_rfl) (by kernel_rfl) (by kernel_rfl) (by kernel_rfl) (by kernel_rfl) (by decide) (by kernel_rfl) wz (vI r_11.1) (by kernel_rfl) ([((ak 0),some (.cells 2 [(vL eI r_11.2.L),(vI r_11.2.f_at)]))]:Hp) (by kernel_rfl) ?_
   obtain ⟨b_14,hy_15,hF⟩:=bind_some hF
   refine qE un9 rfl rfl hy_15 wz (aa (.d (.int .u8 (b_14.toNat:Int))) (ah (au (ai (aa (.ref (ak 0) 0 0) ?_)))))
   obtain ⟨r_16,hr_17,hF⟩:=bind_some hF
   refine aS 0 [0] il ft (cK hr_17) rfl BP rfl (by kernel_rfl) (by kernel_rfl) (by kernel_rfl) (by kernel_rfl) (by kernel_rfl) (by kernel_rfl) (by kernel_rfl) (by decide) (by kernel_rfl) wz (vI r_16.1) (by kernel_rfl) ([((ak 0),some (.cells 2 [(vL eI r_16.2.L),(vI r_16.2.f_at)]))]:Hp) (by kernel_rfl) (ah (aR (ai (aa (vB (r_16.1==0)) (aa (vB (r_16.1==0)) (ah ?_))))))
   rcases aj hF with⟨hc_19,hF⟩|⟨hc_19,hF⟩
   ·refine aC rfl hc_19 (au (bQ (aa (vS t_2) (aa (vI r_8.1) ?_))))
    obtain ⟨y_20,hy_21,hF⟩:=bind_some hF
    refine jh un9 rfl rfl hy_21 wz (aa (.d (.int .u8 (b_14.toNat:Int))) (BV un5 un21 rfl wz (I9 un21 un9 rfl wz ?_)))
    obtain ⟨s_22,hz_23,hF⟩:=bind_some hF
    refine gq rfl rfl hz_23 wz (aa (vS t_2) (aa (vI r_8.1) (aa (vI (w64 (r_8.1+1))) ?_)))
    obtain ⟨y_24,hy_25,hF⟩:=bind_some hF
    refine jl un9 rfl rfl hy_25 wz ?_
    obtain ⟨s_26,hz_27,hF⟩:=bind_some hF
    refine gq rfl rfl hz_27 wz (aa (vS s_26) (ah ?_))
    obtain rfl:=ae hF
    exact ax (rD (.inr rfl) [(vS s_26)] _ [0] [ak 0] ⟨rfl,trivial⟩ (.cons (fB rfl rfl) (.nil)) (by kernel_rfl) ⟨(by kernel_rfl),trivial⟩ (by decide) (by kernel_rfl))
   ·refine aB rfl hc_19 (ai (aa (vB (r_16.1==1)) (aa (vB (r_16.1==1)) (ah ?_))))
    rcases aj hF with⟨hc_28,hF⟩|⟨hc_28,hF⟩
    ·refine aC rfl hc_28 (au (bQ (aa (vS t_2) (aa (vI r_8.1) ?_))))
     obtain ⟨y_29,hy_30,hF⟩:=bind_some hF
     refine jh un9 rfl rfl hy_30 wz (aa (.d (.int .u8 (b_14.toNat:Int))) (BV un5 un21 rfl wz (I9 un21 un9 rfl wz ?_)))
     obtain ⟨s_31,hz_32,hF⟩:=bind_some hF
     refine gq rfl rfl hz_32 wz (aa (vS t_2) (aa (vI r_8.1) ?_))
     obtain ⟨y_33,hy_34,hF⟩:=bind_some hF
     refine jl un9 rfl rfl hy_34 wz ?_
     obtain ⟨s_35,hz_36,hF⟩:=bind_some hF
     refine gq rfl rfl hz_36 wz (aa (vS s_35) (ah (aP (H0:=([((ak 0),some (.cells 2 [(vL eI r_16.2.L),(vI r_16.2.f_at)]))]:Hp)) ([(6,(vS s_35))]:SL_) (by kernel_rfl) (qb (by kernel_rfl)) ?_)))
     obtain rfl:=ae hF
     exact ax (rD (.inr rfl) [(vS s_35)] _ [0] [ak 0] ⟨rfl,trivial⟩ (.cons (fB rfl rfl) (.nil)) (by kernel_rfl) ⟨(by kernel_rfl),trivial⟩ (by decide) (by kernel_rfl))
    ·refine aB rfl hc_28 (aA (au (bQ (aa (vS t_2) (aa (vI r_8.1) ?_)))))
     obtain ⟨y_37,hy_38,hF⟩:=bind_some hF
     refine jh un9 rfl rfl hy_38 wz (aa (vS t_2) (aa (vI r_8.1) (aa (vI (w64 (r_8.1+1))) ?_)))
     obtain ⟨y_39,hy_40,hF⟩:=bind_some hF
     refine jl un9 rfl rfl hy_40 wz ?_
     obtain ⟨s_41,hz_42,hF⟩:=bind_some hF
     refine gq rfl rfl hz_42 wz (aa (vS s_41) (ah ?_))
     obtain rfl:=ae hF
     exact ax (rD (.inr rfl) [(vS s_41)] _ [0] [ak 0] ⟨rfl,trivial⟩ (.cons (fB rfl rfl) (.nil)) (by kernel_rfl) ⟨(by kernel_rfl),trivial⟩ (by decide) (by kernel_rfl))
theorem su {s_1:Stream} {r:ByteArray×Stream} (hF:gZ s_1=some r) :
  FnM Tryz.prog 5 [(.ref (ak 0) 0 0)] [(.cells 2 [(vL eI s_1.L),(vI s_1.f_at)])] (vS r.1) [some (.cells 2 [(vL eI r.2.L),(vI r.2.f_at)])]:=by
 refine FnM.of_wH ⟨Tryz.prog,24,[],[]⟩ rfl Tryz.func5 rfl rfl (lb_ rfl) (by kernel_rfl) ?_
 unfold gZ at hF
 refine ai (aa (vS (⟨#[]⟩:ByteArray)) (ah (ai (aa (.ref (ak 0) 0 0) ?_))))
 obtain ⟨r_2,hr_3,hF⟩:=bind_some hF
 refine aS 0 [0] il ft (qF hr_3) rfl hb14 rfl (by kernel_rfl) (by kernel_rfl) (by kernel_rfl) (by kernel_rfl) (by kernel_rfl) (by kernel_rfl) (by kernel_rfl) (by decide) (by kernel_rfl) wz (vL Alert.enc r_2.1) (by kernel_rfl) ([((ak 0),some (.cells 2 [(vL eI r_2.2.L),(vI r_2.2.f_at)]))]:Hp) (by kernel_rfl) ?_
 obtain ⟨r_5,hr_6,hF⟩:=bind_some hF
 refine aD (jW hr_6) rfl hb8 rfl rfl rfl rfl wz (aa (vS r_5) (ah (au (ai (aa (.ref (ak 0) 0 0) (di (([0,0,1,2]:List Int).map eI) jZ uy rfl rfl rfl rfl rfl wz ?_))))))
 obtain ⟨r_7,hr_8,hF⟩:=bind_some hF
 refine aS 0 [0] il ft (dE hr_8) rfl Ct rfl (by kernel_rfl) (by kernel_rfl) (by kernel_rfl) (by kernel_rfl) (by kernel_rfl) (by kernel_rfl) (by kernel_rfl) (by decide) (by kernel_rfl) wz (vI r_7.1) (by kernel_rfl) ([((ak 0),some (.cells 2 [(vL eI r_7.2.L),(vI r_7.2.f_at)]))]:Hp) (by kernel_rfl) (aa (vI 0) (ah ?_))
 obtain ⟨o_18,hj_19,hF⟩:=bind_some hF
 obtain ⟨hn_14,hj_19⟩:=bu hj_19
 refine dU (λ(s_15:ByteArray×(List Int)×Int)=>[(0,(.ref (ak 0) 0 0)),(3,(vS s_15.1))]) (λ(s_15:ByteArray×(List Int)×Int)=>[((ak 0),some (.cells 2 [(vL eI s_15.2.1),(vI s_15.2.2)]))]) (λ(k_10:Nat)=>(λ(s_15:ByteArray×(List Int)×Int)=>[(0,(.ref (ak 0) 0 0)),(3,(vS s_15.1)),(9,(vI r_7.1)),(10,(vI (k_10:Int)))])) (λk x s=>fw k x s) o_18 (List.range (r_7.1).toNat) (r_5,r_7.2.L,r_7.2.f_at) hj_19 rfl (aM rfl) ?_ ?_
 ·rintro ⟨k_10,l_11,s_15⟩ ⟨hL_17,hD_13⟩
  dsimp only at hL_17 hD_13
  cases l_11 with
  | nil =>
   obtain rfl:=ae hL_17
   refine ai (aa (vB (decide ((k_10:Int)<r_7.1))) (ah ?_))
   refine au (aB rfl (ru hD_13) (bO ?_))
   exact bD (s_15) rfl rfl (aM rfl)
  | cons x_12 l_11 =>
   obtain ⟨c_,hc_16,hL_17⟩:=bind_some hL_17
   refine ai (aa (vB (decide ((k_10:Int)<r_7.1))) (ah ?_))
   refine au (aC rfl (pQ hD_13) (aA ?_))
   unfold fw at hc_16
   refine au (aR (av (aa (.ref (ak 0) 0 0) (aa (vS s_15.1) ?_))))
   obtain ⟨r_20,hr_21,hc_16⟩:=bind_some hc_16
   refine aS 0 [0] il ft (ut hr_21) rfl hb21 rfl (by kernel_rfl) (by kernel_rfl) (by kernel_rfl) (by kernel_rfl) (by kernel_rfl) (by kernel_rfl) (by kernel_rfl) (by decide) (by kernel_rfl) wz (vS r_20.1) (by kernel_rfl) ([((ak 0),some (.cells 2 [(vL eI r_20.2.L),(vI r_20.2.f_at)]))]:Hp) (by kernel_rfl) (aa (vS r_20.1) (ah (av (gY (rA hD_13 hn_14) wz rfl (aa (vI ((k_10+1:Nat):Int)) (ah ?_))))))
   obtain rfl:=ae hc_16
   exact bN (k_10+1,l_11,(r_20.1,r_20.2.L,r_20.2.f_at)) ⟨hL_17,bn hD_13⟩ (ls_ _) rfl (aM rfl)
 ·rintro s_15 ho_ sl_ H_ hp_ hq_
  subst ho_
  refine aP _ hp_ hq_ (au (ai (aa (.ref (ak 0) 0 0) ?_)))
  obtain ⟨r_23,hr_24,hF⟩:=bind_some hF
  refine aS 0 [0] il ft (fu hr_24) rfl IL rfl (by kernel_rfl) (by kernel_rfl) (by kernel_rfl) (by kernel_rfl) (by kernel_rfl) (by kernel_rfl) (by kernel_rfl) (by decide) (by kernel_rfl) wz (vB r_23.1) (by kernel_rfl) ([((ak 0),some (.cells 2 [(vL eI r_23.2.L),(vI r_23.2.f_at)]))]:Hp) (by kernel_rfl) (ah ?_)
  obtain ⟨v_26,h_27,hF⟩:=bind_some hF
  refine aN [(3,(vS v_26.1))] [((ak 0),some (.cells 2 [(vL eI v_26.2.1),(vI v_26.2.2)]))] ?_ ?_
  ·rcases aj h_27 with⟨hc_28,h_27⟩|⟨hc_28,h_27⟩
   ·refine aC rfl hc_28 (av (aa (vS s_15.1) (aa (.ref (ak 0) 0 0) (di (([(⟨#[116,101,120,116,32,120,10]⟩:ByteArray),(⟨#[114,101,102,32,122,122,10]⟩:ByteArray),(⟨#[97,114,101,97,32,48,32,48,32,49,32,49,10]⟩:ByteArray),(⟨#[116,101,120,116,32,10]⟩:ByteArray),(⟨#[116,101,120,116,32,32,120,10]⟩:ByteArray)]:List ByteArray).map eS) fO nE rfl rfl rfl rfl rfl wz ?_))))
    obtain ⟨r_29,hr_30,h_27⟩:=bind_some h_27
    refine aS 0 [0] il ft (dD hr_30) rfl Cr rfl (by kernel_rfl) (by kernel_rfl) (by kernel_rfl) (by kernel_rfl) (by kernel_rfl) (by kernel_rfl) (by kernel_rfl) (by decide) (by kernel_rfl) wz (vS r_29.1) (by kernel_rfl) ([((ak 0),some (.cells 2 [(vL eI r_29.2.L),(vI r_29.2.f_at)]))]:Hp) (by kernel_rfl) ?_
    obtain ⟨s_32,hz_33,h_27⟩:=bind_some h_27
    refine gq rfl rfl hz_33 wz (aa (vS s_32) (ah ?_))
    obtain rfl:=ae h_27
    exact cu
   ·refine aB rfl hc_28 (aA ?_)
    obtain rfl:=ae h_27
    exact cu
  ·rintro ⟨⟩ _ sl_ H_ hp_ hq_
   refine aP _ hp_ hq_ (ai (aa (vS v_26.1) (aa (vS v_26.1) (ah ?_))))
   obtain rfl:=ae hF
   exact ax (rD (.inr rfl) [(vS v_26.1)] _ [0] [ak 0] ⟨rfl,trivial⟩ (.cons (fB rfl rfl) (.nil)) (by kernel_rfl) ⟨(by kernel_rfl),trivial⟩ (by decide) (by kernel_rfl))
theorem oL {s_1:ByteArray} {r:Bool} (hF:kit_IsKey s_1=some r) :
  FnM Tryz.prog 67 [(vS s_1)] [] (vB r) []:=by
 refine FnM.of_wH ⟨Tryz.prog,48,[],[]⟩ rfl Tryz.func67 rfl rfl (lb_ rfl) (by kernel_rfl) ?_
 unfold kit_IsKey at hF
 refine ai (aa (vB false) (ah (au (ai (aa (vI 0) (ah ?_))))))
 obtain ⟨o_10,hj_11,hF⟩:=bind_some hF
 obtain ⟨nq_33,hj_11⟩:=lU hj_11
 refine oP (λ(s_7:Int)=>[(0,(vS s_1))]) (λ(s_7:Int)=>[]) (λ(k_2:Nat)=>(λ(s_7:Int)=>[(0,(vS s_1)),(3,(vI s_7))])) (λs=>iX s_1 s) o_10 nq_33 0 hj_11 rfl (aM rfl) ?_ ?_
 ·rintro ⟨k_2,s_7⟩ hL_9
  dsimp only at hL_9
  cases k_2 with
  | zero=>cases hL_9
  | succ k_2 =>
   obtain ⟨c_,hc_8,hL_9⟩:=bind_some hL_9
   unfold iX at hc_8
   refine au (ai (aa (vI s_7) (aa (vS s_1) (iU un9 rfl wz (aa (vB (decide (s_7<(s_1.size:Int)))) (ah ?_))))))
   rcases aj hc_8 with⟨hc_12,hc_8⟩|⟨hc_12,hc_8⟩
   ·refine aC rfl hc_12 (aA (au (aR (ai (aa (vS s_1) (aa (vI s_7) ?_))))))
    obtain ⟨b_13,hy_14,hc_8⟩:=bind_some hc_8
    refine qE un9 rfl rfl hy_14 wz (aa (.d (.int .u8 (b_13.toNat:Int))) (ah (au ?_)))
    obtain ⟨v_15,h_16,hc_8⟩:=bind_some hc_8
    refine aN [(0,(vS s_1)),(3,(vI s_7)),(40,(vB v_15))] [] ?_ ?_
    ·refine av (aa (.d (.int .u8 (b_13.toNat:Int))) (aa (vB (decide ((b_13.toNat:Int)>=97))) ?_))
     rcases aj h_16 with⟨hc_17,h_16⟩|⟨hc_17,h_16⟩
     ·refine ay rfl hc_17 wz (aH (.d (.int .u8 (b_13.toNat:Int))) wa rfl (aH (vB (decide ((b_13.toNat:Int)<=122))) wa rfl (aa (vB (decide ((b_13.toNat:Int)<=122))) ?_)))
      rcases aj h_16 with⟨hc_18,h_16⟩|⟨hc_18,h_16⟩
      ·refine ay rfl hc_18 wz (af (af (af (aX (wn rfl rfl) (aX (wn rfl rfl) (aX (wn rfl rfl) (aX (wn rfl rfl) (aX (wn rfl rfl) (aX (wn rfl rfl) (aX (wn rfl rfl) (aX (wn rfl rfl) (aX (wn rfl rfl) (aX (wn rfl rfl) (aX (wn rfl rfl) (aX (wn rfl rfl) (aX (wn rfl rfl) (aX (wn rfl rfl) (af (aa (vB true) (aa (vB false) (ah ?_)))))))))))))))))))))
       obtain rfl:=ae h_16
       exact cu
      ·refine ay rfl hc_18 wz (aH (vI s_7) wa rfl (aH (vB (decide (s_7>0))) wa rfl ?_))
       rcases aj h_16 with⟨hc_19,h_16⟩|⟨hc_19,h_16⟩
       ·refine ay rfl hc_19 wa (aH (.d (.int .u8 (b_13.toNat:Int))) wa rfl (aH (vB (decide ((b_13.toNat:Int)>=48))) wa rfl ?_))
        rcases aj h_16 with⟨hc_20,h_16⟩|⟨hc_20,h_16⟩
        ·refine ay rfl hc_20 wa (aH (.d (.int .u8 (b_13.toNat:Int))) wa rfl (aH (vB (decide ((b_13.toNat:Int)<=57))) wa rfl (aH (vB (decide ((b_13.toNat:Int)<=57))) wa rfl ?_)))
         rcases aj h_16 with⟨hc_21,h_16⟩|⟨hc_21,h_16⟩
         ·refine ay rfl hc_21 wa (af (af (aH (vB true) wa rfl (aH (vB true) wa rfl (af (af (aH (vB true) wa rfl (aH (vB true) wa rfl (aa (vB true) (aa (vB false) (ah ?_)))))))))))
          obtain rfl:=ae h_16
          exact cu
         ·refine ay rfl hc_21 wa (aH (.d (.int .u8 (b_13.toNat:Int))) wa rfl (aH (vB ((b_13.toNat:Int)==45)) wa rfl (aH (vB ((b_13.toNat:Int)==45)) wa rfl ?_)))
          rcases aj h_16 with⟨hc_22,h_16⟩|⟨hc_22,h_16⟩
          ·refine ay rfl hc_22 wa (af (af (aH (vB true) wa rfl (aH (vB true) wa rfl (aa (vB true) (aa (vB false) (ah ?_)))))))
           obtain rfl:=ae h_16
           exact cu
          ·refine ay rfl hc_22 wa (aH (.d (.int .u8 (b_13.toNat:Int))) wa rfl (aH (vB ((b_13.toNat:Int)==95)) wa rfl (aH (vB ((b_13.toNat:Int)==95)) wa rfl (aH (vB ((b_13.toNat:Int)==95)) wa rfl (aa (vB ((b_13.toNat:Int)==95)) (aa (vB (!((b_13.toNat:Int)==95))) (ah ?_)))))))
           obtain rfl:=ae h_16
           exact cu
        ·refine ay rfl hc_20 wa (af (af (aH (vB false) wa rfl (aH (vB false) wa rfl (aH (.d (.int .u8 (b_13.toNat:Int))) wa rfl (aH (vB ((b_13.toNat:Int)==45)) wa rfl (aH (vB ((b_13.toNat:Int)==45)) wa rfl ?_)))))))
         rcases aj h_16 with⟨hc_23,h_16⟩|⟨hc_23,h_16⟩
         ·refine ay rfl hc_23 wa (af (af (aH (vB true) wa rfl (aH (vB true) wa rfl (aa (vB true) (aa (vB false) (ah ?_)))))))
          obtain rfl:=ae h_16
          exact cu
         ·refine ay rfl hc_23 wa (aH (.d (.int .u8 (b_13.toNat:Int))) wa rfl (aH (vB ((b_13.toNat:Int)==95)) wa rfl (aH (vB ((b_13.toNat:Int)==95)) wa rfl (aH (vB ((b_13.toNat:Int)==95)) wa rfl (aa (vB ((b_13.toNat:Int)==95)) (aa (vB (!((b_13.toNat:Int)==95))) (ah ?_)))))))
          obtain rfl:=ae h_16
          exact cu
       ·refine ay rfl hc_19 wa (af (af (af (aX (wn rfl rfl) (aX (wn rfl rfl) (af (af (aX (wn rfl rfl) (aX (wn rfl rfl) (af (af (aX (wn rfl rfl) (aX (wn rfl rfl) (af (aH (vB false) wa rfl (aa (vB false) (aa (vB true) (ah ?_))))))))))))))))))
        obtain rfl:=ae h_16
        exact cu
     ·refine ay rfl hc_17 wz (af (af (aa (vB false) (aa (vB false) (aH (vI s_7) wa rfl (aH (vB (decide (s_7>0))) wa rfl ?_))))))
      rcases aj h_16 with⟨hc_24,h_16⟩|⟨hc_24,h_16⟩
      ·refine ay rfl hc_24 wa (aH (.d (.int .u8 (b_13.toNat:Int))) wa rfl (aH (vB (decide ((b_13.toNat:Int)>=48))) wa rfl ?_))
       rcases aj h_16 with⟨hc_25,h_16⟩|⟨hc_25,h_16⟩
       ·refine ay rfl hc_25 wa (aH (.d (.int .u8 (b_13.toNat:Int))) wa rfl (aH (vB (decide ((b_13.toNat:Int)<=57))) wa rfl (aH (vB (decide ((b_13.toNat:Int)<=57))) wa rfl ?_)))
        rcases aj h_16 with⟨hc_26,h_16⟩|⟨hc_26,h_16⟩
        ·refine ay rfl hc_26 wa (af (af (aH (vB true) wa rfl (aH (vB true) wa rfl (af (af (aH (vB true) wa rfl (aH (vB true) wa rfl (aa (vB true) (aa (vB false) (ah ?_)))))))))))
         obtain rfl:=ae h_16
         exact cu
        ·refine ay rfl hc_26 wa (aH (.d (.int .u8 (b_13.toNat:Int))) wa rfl (aH (vB ((b_13.toNat:Int)==45)) wa rfl (aH (vB ((b_13.toNat:Int)==45)) wa rfl ?_)))
         rcases aj h_16 with⟨hc_27,h_16⟩|⟨hc_27,h_16⟩
         ·refine ay rfl hc_27 wa (af (af (aH (vB true) wa rfl (aH (vB true) wa rfl (aa (vB true) (aa (vB false) (ah ?_)))))))
          obtain rfl:=ae h_16
          exact cu
         ·refine ay rfl hc_27 wa (aH (.d (.int .u8 (b_13.toNat:Int))) wa rfl (aH (vB ((b_13.toNat:Int)==95)) wa rfl (aH (vB ((b_13.toNat:Int)==95)) wa rfl (aH (vB ((b_13.toNat:Int)==95)) wa rfl (aa (vB ((b_13.toNat:Int)==95)) (aa (vB (!((b_13.toNat:Int)==95))) (ah ?_)))))))
          obtain rfl:=ae h_16
          exact cu
       ·refine ay rfl hc_25 wa (af (af (aH (vB false) wa rfl (aH (vB false) wa rfl (aH (.d (.int .u8 (b_13.toNat:Int))) wa rfl (aH (vB ((b_13.toNat:Int)==45)) wa rfl (aH (vB ((b_13.toNat:Int)==45)) wa rfl ?_)))))))
        rcases aj h_16 with⟨hc_28,h_16⟩|⟨hc_28,h_16⟩
        ·refine ay rfl hc_28 wa (af (af (aH (vB true) wa rfl (aH (vB true) wa rfl (aa (vB true) (aa (vB false) (ah ?_)))))))
         obtain rfl:=ae h_16
         exact cu
        ·refine ay rfl hc_28 wa (aH (.d (.int .u8 (b_13.toNat:Int))) wa rfl (aH (vB ((b_13.toNat:Int)==95)) wa rfl (aH (vB ((b_13.toNat:Int)==95)) wa rfl (aH (vB ((b_13.toNat:Int)==95)) wa rfl (aa (vB ((b_13.toNat:Int)==95)) (aa (vB (!((b_13.toNat:Int)==95))) (ah ?_)))))))
         obtain rfl:=ae h_16
         exact cu
      ·refine ay rfl hc_24 wa (af (af (af (aX (wn rfl rfl) (aX (wn rfl rfl) (af (af (aX (wn rfl rfl) (aX (wn rfl rfl) (af (af (aX (wn rfl rfl) (aX (wn rfl rfl) (af (aH (vB false) wa rfl (aa (vB false) (aa (vB true) (ah ?_))))))))))))))))))
       obtain rfl:=ae h_16
       exact cu
    ·rintro ⟨⟩ _ sl_ H_ hp_ hq_
     refine aP _ hp_ hq_ ?_
     rcases aj hc_8 with⟨hc_29,hc_8⟩|⟨hc_29,hc_8⟩
     ·refine aC rfl hc_29 (ai (aa (vB false) (ah ?_)))
      obtain rfl:=ae hc_8
      obtain rfl:=ae hL_9
      obtain rfl:=ae hF
      exact ax (aK [(vB false)] ⟨rfl,trivial⟩)
     ·refine aB rfl hc_29 (aA (av (aa (vI s_7) (aa (vI (w64 (s_7+1))) (aa (vI (w64 (s_7+1))) (ah ?_))))))
      obtain rfl:=ae hc_8
      exact bN (k_2,(w64 (s_7+1))) hL_9 (ls_ _) rfl (aM rfl)
   ·refine aB rfl hc_12 (bO ?_)
    obtain rfl:=ae hc_8
    obtain rfl:=ae hL_9
    exact bD (s_7) rfl rfl (aM rfl)
 ·rintro s_7 ho_ sl_ H_ hp_ hq_
  subst ho_
  refine aP _ hp_ hq_ (au ?_)
  obtain ⟨v_30,h_31,hF⟩:=bind_some hF
  refine aN [(2,(vB v_30))] [] ?_ ?_
  ·refine av (aa (vS s_1) (aa (vB (sNe s_1 (⟨#[]⟩:ByteArray))) ?_))
   rcases aj h_31 with⟨hc_32,h_31⟩|⟨hc_32,h_31⟩
   ·refine ay rfl hc_32 wz (aH (vS s_1) wa rfl (iU un9 rfl wa (aH (vB (decide ((s_1.size:Int)<=40))) wa rfl (aa (vB (decide ((s_1.size:Int)<=40))) (aa (vB (decide ((s_1.size:Int)<=40))) (ah ?_))))))
    obtain rfl:=ae h_31
    exact cu
   ·refine ay rfl hc_32 wz (af (af (af (aa (vB false) (aa (vB false) (ah ?_))))))
    obtain rfl:=ae h_31
    exact cu
  ·rintro ⟨⟩ _ sl_ H_ hp_ hq_
   refine aP _ hp_ hq_ ?_
   obtain rfl:=ae hF
   exact ax (aK [(vB v_30)] ⟨rfl,trivial⟩)
theorem fE {n_1:Int} {low_2:Int} {high_3:Int} {r:Bool} (hF:dx n_1 low_2 high_3=some r) :
  FnM Tryz.prog 68 [(vI n_1),(vI low_2),(vI high_3)] [] (vB r) []:=by
 refine FnM.of_wH ⟨Tryz.prog,15,[],[]⟩ rfl Tryz.func68 rfl rfl (lb_ rfl) (by kernel_rfl) ?_
 unfold dx at hF
 refine ai (aa (vB false) (ah (au ?_)))
 obtain ⟨v_4,h_5,hF⟩:=bind_some hF
 refine aN [(6,(vB v_4))] [] ?_ ?_
 ·refine av (aa (vI n_1) (aa (vI low_2) (aa (vB (decide (n_1<low_2))) ?_)))
  rcases aj h_5 with⟨hc_6,h_5⟩|⟨hc_6,h_5⟩
  ·refine ay rfl hc_6 wz (af (af (af (aa (vB true) (aa (vB true) (ah ?_))))))
   obtain rfl:=ae h_5
   exact cu
  ·refine ay rfl hc_6 wz (aH (vI n_1) wa rfl (aH (vI high_3) wa rfl (aH (vB (decide (n_1>high_3))) wa rfl (aa (vB (decide (n_1>high_3))) (aa (vB (decide (n_1>high_3))) (ah ?_))))))
   obtain rfl:=ae h_5
   exact cu
 ·rintro ⟨⟩ _ sl_ H_ hp_ hq_
  refine aP _ hp_ hq_ ?_
  obtain rfl:=ae hF
  exact ax (aK [(vB v_4)] ⟨rfl,trivial⟩)
theorem wQ {a_1:Alert} {r:Int} (hF:gP a_1=some r) :
  FnM Tryz.prog 69 [(.d (.agg (Alert.enc a_1)))] [] (vI r) []:=by
 refine FnM.of_wH ⟨Tryz.prog,48,[],[]⟩ rfl Tryz.func69 rfl rfl (lb_ rfl) (by kernel_rfl) ?_
 unfold gP at hF
 refine ai (lY 0 (.inl rfl) (Alert.v a_1) rfl rfl wz (λn_2=>aa (vI 0) (ah (au (ai (aG iK rfl 3 rfl wz (aI 0 0 il ft oI uP rfl rfl (vL eS a_1.Refs) rfl wz (dz kQ rfl wz (aa (vB (decide ((a_1.Refs.length:Int)>20))) (ah ?_))))))))))
 rcases aj hF with⟨hc_3,hF⟩|⟨hc_3,hF⟩
 ·refine aC rfl hc_3 (ai (aa (vI 2) (ah ?_)))
  obtain rfl:=ae hF
  exact ax (aK [(vI 2)] ⟨rfl,trivial⟩)
 ·refine aB rfl hc_3 (aA (au (ai (aG iK rfl 3 rfl wz (aI 0 0 il ft oI uP rfl rfl (vL eS a_1.Refs) rfl wz (dz kQ rfl wz (aa (vI 0) (ah ?_))))))))
  obtain ⟨o_12,hj_13,hF⟩:=bind_some hF
  obtain ⟨hn_8,hj_13⟩:=bu hj_13
  refine dU (λ(s_9:Unit)=>[(1,(.ref n_2 0 0))]) (λ(s_9:Unit)=>[(n_2,some (.cells 9 (Alert.v a_1)))]) (λ(k_4:Nat)=>(λ(s_9:Unit)=>[(1,(.ref n_2 0 0)),(10,(vL eS a_1.Refs)),(11,(vI (a_1.Refs.length:Int))),(12,(vI (k_4:Int)))])) (λk x s=>dS a_1 k x s) o_12 a_1.Refs () hj_13 rfl (aM rfl) ?_ ?_
  ·rintro ⟨k_4,l_5,s_9⟩ ⟨hL_11,hD_7⟩
   dsimp only at hL_11 hD_7
   cases l_5 with
   | nil =>
    obtain rfl:=ae hL_11
    refine ai (aa (vB (decide ((k_4:Int)<(a_1.Refs.length:Int)))) (ah ?_))
    refine au (aB rfl (drop_nil hD_7) (bO ?_))
    exact bD (s_9) rfl rfl (aM rfl)
   | cons x_6 l_5 =>
    obtain ⟨c_,hc_10,hL_11⟩:=bind_some hL_11
    refine ai (aa (vB (decide ((k_4:Int)<(a_1.Refs.length:Int)))) (ah ?_))
    refine au (aC rfl (bL hD_7) (aA ?_))
    unfold dS at hc_10
    refine au (aR (ai (aa (vI (k_4:Int)) (eD fO rfl rfl (dh hD_7) rfl wz (bK sz9 ag9 rfl (vS x_6) rfl wz (aa (vI (k_4:Int)) (aa (vS x_6) (ah (aR (ai (aa (vS x_6) ?_)))))))))))
    obtain ⟨r_14,hr_15,hc_10⟩:=bind_some hc_10
    refine aD (oL hr_15) rfl hb67 rfl rfl rfl rfl wz (aa (vB (!r_14)) (aa (vB (!r_14)) (ah ?_)))
    rcases aj hc_10 with⟨hc_16,hc_10⟩|⟨hc_16,hc_10⟩
    ·refine aC rfl hc_16 (ai (aa (vI 5) (ah ?_)))
     obtain rfl:=ae hc_10
     obtain rfl:=ae hL_11
     obtain rfl:=ae hF
     exact ax (aK [(vI 5)] ⟨rfl,trivial⟩)
    ·refine aB rfl hc_16 (au ?_)
     obtain ⟨v_17,h_18,hc_10⟩:=bind_some hc_10
     refine aN [(1,(.ref n_2 0 0)),(4,(vS x_6)),(10,(vL eS a_1.Refs)),(11,(vI (a_1.Refs.length:Int))),(12,(vI (k_4:Int))),(21,(vB v_17))] [(n_2,some (.cells 9 (Alert.v a_1)))] ?_ ?_
     ·refine av (aa (vI (k_4:Int)) (aa (vB (decide ((k_4:Int)>0))) ?_))
      rcases aj h_18 with⟨hc_19,h_18⟩|⟨hc_19,h_18⟩
      ·refine ay rfl hc_19 wz (aH (vS x_6) wa rfl (aG iK rfl 3 rfl wa (aI 0 0 il ft oI uP rfl rfl (vL eS a_1.Refs) rfl wa (aH (vI (k_4:Int)) wa rfl (aH (vI (w64 ((k_4:Int)-1))) wa rfl ?_)))))
       obtain ⟨y_20,hy_21,h_18⟩:=bind_some h_18
       refine eD fO rfl rfl hy_21 rfl wa (bK sz9 ag9 rfl (vS y_20) rfl wa (aH (vB (sLe x_6 y_20)) wa rfl (aa (vB (sLe x_6 y_20)) (aa (vB (sLe x_6 y_20)) (ah ?_)))))
       obtain rfl:=ae h_18
       exact cu
      ·refine ay rfl hc_19 wz (af (af (af (af (af (af (af (af (aa (vB false) (aa (vB false) (ah ?_)))))))))))
       obtain rfl:=ae h_18
       exact cu
     ·rintro ⟨⟩ _ sl_ H_ hp_ hq_
      refine aP _ hp_ hq_ ?_
      rcases aj hc_10 with⟨hc_22,hc_10⟩|⟨hc_22,hc_10⟩
      ·refine aC rfl hc_22 (ai (aa (vI 7) (ah ?_)))
       obtain rfl:=ae hc_10
       obtain rfl:=ae hL_11
       obtain rfl:=ae hF
       exact ax (aK [(vI 7)] ⟨rfl,trivial⟩)
      ·refine aB rfl hc_22 (ai (aa (vS x_6) (aG jT rfl 0 rfl wz (aI 0 0 il ft sz9 ag9 rfl rfl (vS a_1.Id) rfl wz (aa (vB (sEq x_6 a_1.Id)) (aa (vB (sEq x_6 a_1.Id)) (ah ?_)))))))
       rcases aj hc_10 with⟨hc_23,hc_10⟩|⟨hc_23,hc_10⟩
       ·refine aC rfl hc_23 (ai (aa (vI 14) (ah ?_)))
        obtain rfl:=ae hc_10
        obtain rfl:=ae hL_11
        obtain rfl:=ae hF
        exact ax (aK [(vI 14)] ⟨rfl,trivial⟩)
       ·refine aB rfl hc_23 (aA (av (gY (cZ hD_7 hn_8) wz rfl (aa (vI ((k_4+1:Nat):Int)) (ah ?_)))))
        obtain rfl:=ae hc_10
        exact bN (k_4+1,l_5,()) ⟨hL_11,bn hD_7⟩ (ls_ _) rfl (aM rfl)
  ·rintro s_9 ho_ sl_ H_ hp_ hq_
   subst ho_
   refine aP _ hp_ hq_ (au (ai (aG mr rfl 2 rfl wz (aI 0 0 il ft sz3 ag3 rfl rfl (vI a_1.Kind) rfl wz (aa (vB (a_1.Kind==1)) (aG iK rfl 3 rfl wz (aI 0 0 il ft oI uP rfl rfl (vL eS a_1.Refs) rfl wz (dz kQ rfl wz (aa (vB ((a_1.Refs.length:Int)==0)) (Ed un4 rfl rfl wz (ah ?_)))))))))))
   rcases aj hF with⟨hc_24,hF⟩|⟨hc_24,hF⟩
   ·refine aC rfl hc_24 (ai (aa (vI 3) (ah ?_)))
    obtain rfl:=ae hF
    exact ax (aK [(vI 3)] ⟨rfl,trivial⟩)
   ·refine aB rfl hc_24 (aA (ai (aa (vI 0) (ah ?_))))
    obtain rfl:=ae hF
    exact ax (aK [(vI 0)] ⟨rfl,trivial⟩)
theorem zG {n_1:Int} {r:Bool} (hF:kT n_1=some r) :
  FnM Tryz.prog 70 [(vI n_1)] [] (vB r) []:=by
 refine FnM.of_wH ⟨Tryz.prog,9,[],[]⟩ rfl Tryz.func70 rfl rfl (lb_ rfl) (by kernel_rfl) ?_
 unfold kT at hF
 refine ai (aa (vB false) (ah (au ?_)))
 obtain ⟨v_2,h_3,hF⟩:=bind_some hF
 refine aN [(2,(vB v_2))] [] ?_ ?_
 ·refine av (aa (vI n_1) (aa (vB (decide (n_1>=0))) ?_))
  rcases aj h_3 with⟨hc_4,h_3⟩|⟨hc_4,h_3⟩
  ·refine ay rfl hc_4 wz (aH (vI n_1) wa rfl (aH (vB (decide (n_1<345686400000))) wa rfl (aa (vB (decide (n_1<345686400000))) (aa (vB (decide (n_1<345686400000))) (ah ?_)))))
   obtain rfl:=ae h_3
   exact cu
  ·refine ay rfl hc_4 wz (af (af (aa (vB false) (aa (vB false) (ah ?_)))))
   obtain rfl:=ae h_3
   exact cu
 ·rintro ⟨⟩ _ sl_ H_ hp_ hq_
  refine aP _ hp_ hq_ ?_
  obtain rfl:=ae hF
  exact ax (aK [(vB v_2)] ⟨rfl,trivial⟩)
theorem vM {r_1:Rect} {r:Int} (hF:jv r_1=some r) :
  FnM Tryz.prog 71 [(.d (.agg (Rect.enc r_1)))] [] (vI r) []:=by
 refine FnM.of_wH ⟨Tryz.prog,25,[],[]⟩ rfl Tryz.func71 rfl rfl (lb_ rfl) (by kernel_rfl) ?_
 unfold jv at hF
 refine ai (lY 0 (.inl rfl) (Rect.v r_1) rfl rfl wz (λn_2=>aa (vI 0) (ah (au (au ?_)))))
 obtain ⟨v_3,h_4,hF⟩:=bind_some hF
 refine aN [(1,(.ref n_2 0 0)),(10,(vB v_3))] [(n_2,some (.cells 4 (Rect.v r_1)))] ?_ ?_
 ·refine av (aG rZ rfl 0 rfl wz (aI 0 0 il ft sz3 ag3 rfl rfl (vI r_1.X) rfl wz ?_))
  obtain ⟨r_5,hr_6,h_4⟩:=bind_some h_4
  refine aD (fE hr_6) rfl EU rfl rfl rfl rfl wz ?_
  rcases aj h_4 with⟨hc_7,h_4⟩|⟨hc_7,h_4⟩
  ·refine ay rfl hc_7 wz (af (af (af (aa (vB true) (ah ?_)))))
   obtain rfl:=ae h_4
   exact cu
  ·refine ay rfl hc_7 wz (aG sI rfl 1 rfl wa (aI 0 0 il ft sz3 ag3 rfl rfl (vI r_1.Y) rfl wa ?_))
   obtain ⟨r_8,hr_9,h_4⟩:=bind_some h_4
   refine aD (fE hr_9) rfl EU rfl rfl rfl rfl wa (aa (vB r_8) (ah ?_))
   obtain rfl:=ae h_4
   exact cu
 ·rintro ⟨⟩ _ sl_ H_ hp_ hq_
  refine aP _ hp_ hq_ ?_
  rcases aj hF with⟨hc_10,hF⟩|⟨hc_10,hF⟩
  ·refine aC rfl hc_10 (ai (aa (vI 1) (ah ?_)))
   obtain rfl:=ae hF
   exact ax (aK [(vI 1)] ⟨rfl,trivial⟩)
  ·refine aB rfl hc_10 (aA (au (au ?_)))
   obtain ⟨v_11,h_12,hF⟩:=bind_some hF
   refine aN [(24,(vB v_11))] [(n_2,some (.cells 4 (Rect.v r_1)))] ?_ ?_
   ·refine av (aG yG rfl 2 rfl wz (aI 0 0 il ft sz3 ag3 rfl rfl (vI r_1.W) rfl wz (aG rZ rfl 0 rfl wz (aI 0 0 il ft sz3 ag3 rfl rfl (vI r_1.X) rfl wz (aa (vI (w64 (100000-r_1.X))) ?_)))))
    obtain ⟨r_13,hr_14,h_12⟩:=bind_some h_12
    refine aD (fE hr_14) rfl EU rfl rfl rfl rfl wz ?_
    rcases aj h_12 with⟨hc_15,h_12⟩|⟨hc_15,h_12⟩
    ·refine ay rfl hc_15 wz (af (af (af (af (af (af (aa (vB true) (ah ?_))))))))
     obtain rfl:=ae h_12
     exact cu
    ·refine ay rfl hc_15 wz (aG wy rfl 3 rfl wa (aI 0 0 il ft sz3 ag3 rfl rfl (vI r_1.H) rfl wa (aG sI rfl 1 rfl wa (aI 0 0 il ft sz3 ag3 rfl rfl (vI r_1.Y) rfl wa (aH (vI (w64 (100000-r_1.Y))) wa rfl ?_)))))
     obtain ⟨r_16,hr_17,h_12⟩:=bind_some h_12
     refine aD (fE hr_17) rfl EU rfl rfl rfl rfl wa (aa (vB r_16) (ah ?_))
     obtain rfl:=ae h_12
     exact cu
   ·rintro ⟨⟩ _ sl_ H_ hp_ hq_
    refine aP _ hp_ hq_ ?_
    rcases aj hF with⟨hc_18,hF⟩|⟨hc_18,hF⟩
    ·refine aC rfl hc_18 (ai (aa (vI 1) (ah ?_)))
     obtain rfl:=ae hF
     exact ax (aK [(vI 1)] ⟨rfl,trivial⟩)
    ·refine aB rfl hc_18 (aA (ai (aa (vI 0) (ah ?_))))
     obtain rfl:=ae hF
     exact ax (aK [(vI 0)] ⟨rfl,trivial⟩)
theorem jV {x0:ByteArray} {r:Bool} (hF:dK x0=some r) :
  FnM Tryz.prog 78 [(vS x0)] [] (vB r) [] :=
 Ld rfl Tryz.utf8_ValidString Kk hF
theorem tC {x0:ByteArray} {x1:ByteArray} {r:ByteArray} (hF:mF x0 x1=some r) :
  FnM Tryz.prog 81 [(vS x0),(vS x1)] [] (vS r) [] :=
 MP rfl Tryz.strings_Trim_ascii  hF
theorem oz {x0:ByteArray} {x1:ByteArray} {r:Bool} (hF:strings_Contains x0 x1=some r) :
  FnM Tryz.prog 82 [(vS x0),(vS x1)] [] (vB r) [] :=
 Gl Tryz.strings_Contains y8 hF
theorem Br {s_1:ByteArray} {r:Bool} (hF:kit_IsPlain s_1=some r) :
  FnM Tryz.prog 72 [(vS s_1)] [] (vB r) []:=by
 refine FnM.of_wH ⟨Tryz.prog,33,[],[]⟩ rfl Tryz.func72 rfl rfl (lb_ rfl) (by kernel_rfl) ?_
 unfold kit_IsPlain at hF
 refine ai (aa (vB false) (ah (au (ai (aa (vI 0) (ah ?_))))))
 obtain ⟨o_10,hj_11,hF⟩:=bind_some hF
 obtain ⟨nq_31,hj_11⟩:=lU hj_11
 refine oP (λ(s_7:Int)=>[(0,(vS s_1))]) (λ(s_7:Int)=>[]) (λ(k_2:Nat)=>(λ(s_7:Int)=>[(0,(vS s_1)),(3,(vI s_7))])) (λs=>eQ s_1 s) o_10 nq_31 0 hj_11 rfl (aM rfl) ?_ ?_
 ·rintro ⟨k_2,s_7⟩ hL_9
  dsimp only at hL_9
  cases k_2 with
  | zero=>cases hL_9
  | succ k_2 =>
   obtain ⟨c_,hc_8,hL_9⟩:=bind_some hL_9
   unfold eQ at hc_8
   refine au (ai (aa (vI s_7) (aa (vS s_1) (iU un9 rfl wz (aa (vB (decide (s_7<(s_1.size:Int)))) (ah ?_))))))
   rcases aj hc_8 with⟨hc_12,hc_8⟩|⟨hc_12,hc_8⟩
   ·refine aC rfl hc_12 (aA (au (aR (au ?_))))
    obtain ⟨v_13,h_14,hc_8⟩:=bind_some hc_8
    refine aN [(0,(vS s_1)),(3,(vI s_7)),(19,(vB v_13))] [] ?_ ?_
    ·refine av (aa (vS s_1) (aa (vI s_7) ?_))
     obtain ⟨b_15,hy_16,h_14⟩:=bind_some h_14
     refine qE un9 rfl rfl hy_16 wz (aa (vB (decide ((b_15.toNat:Int)<32))) ?_)
     rcases aj h_14 with⟨hc_17,h_14⟩|⟨hc_17,h_14⟩
     ·refine ay rfl hc_17 wz (af (af (af (af (aa (vB true) (ah ?_))))))
      obtain rfl:=ae h_14
      exact cu
     ·refine ay rfl hc_17 wz (aH (vS s_1) wa rfl (aH (vI s_7) wa rfl ?_))
      obtain ⟨b_18,hy_19,h_14⟩:=bind_some h_14
      refine qE un9 rfl rfl hy_19 wa (aH (vB ((b_18.toNat:Int)==127)) wa rfl (aa (vB ((b_18.toNat:Int)==127)) (ah ?_)))
      obtain rfl:=ae h_14
      exact cu
    ·rintro ⟨⟩ _ sl_ H_ hp_ hq_
     refine aP _ hp_ hq_ ?_
     rcases aj hc_8 with⟨hc_20,hc_8⟩|⟨hc_20,hc_8⟩
     ·refine aC rfl hc_20 (ai (aa (vB false) (ah ?_)))
      obtain rfl:=ae hc_8
      obtain rfl:=ae hL_9
      obtain rfl:=ae hF
      exact ax (aK [(vB false)] ⟨rfl,trivial⟩)
     ·refine aB rfl hc_20 (aA (av (aa (vI s_7) (aa (vI (w64 (s_7+1))) (aa (vI (w64 (s_7+1))) (ah ?_))))))
      obtain rfl:=ae hc_8
      exact bN (k_2,(w64 (s_7+1))) hL_9 (ls_ _) rfl (aM rfl)
   ·refine aB rfl hc_12 (bO ?_)
    obtain rfl:=ae hc_8
    obtain rfl:=ae hL_9
    exact bD (s_7) rfl rfl (aM rfl)
 ·rintro s_7 ho_ sl_ H_ hp_ hq_
  subst ho_
  refine aP _ hp_ hq_ (au ?_)
  obtain ⟨v_21,h_22,hF⟩:=bind_some hF
  refine aN [(2,(vB v_21))] [] ?_ ?_
  ·refine av (aa (vS s_1) ?_)
   obtain ⟨r_23,hr_24,h_22⟩:=bind_some h_22
   refine aD (jV hr_24) rfl hb78 rfl rfl rfl rfl wz ?_
   rcases aj h_22 with⟨hc_25,h_22⟩|⟨hc_25,h_22⟩
   ·refine ay rfl hc_25 wz (aH (vS s_1) wa rfl ?_)
    obtain ⟨r_26,hr_27,h_22⟩:=bind_some h_22
    refine aD (tC hr_27) rfl hb81 rfl rfl rfl rfl wa (aH (vS s_1) wa rfl (aH (vB (sEq r_26 s_1)) wa rfl (aa (vB (sEq r_26 s_1)) ?_)))
    rcases aj h_22 with⟨hc_28,h_22⟩|⟨hc_28,h_22⟩
    ·refine ay rfl hc_28 wz (aH (vS s_1) wa rfl ?_)
     obtain ⟨r_29,hr_30,h_22⟩:=bind_some h_22
     refine aD (oz hr_30) rfl hb82 rfl rfl rfl rfl wa (aH (vB (!r_29)) wa rfl (aa (vB (!r_29)) (aa (vB (!r_29)) (ah ?_))))
     obtain rfl:=ae h_22
     exact cu
    ·refine ay rfl hc_28 wz (af (af (af (aa (vB false) (aa (vB false) (ah ?_))))))
     obtain rfl:=ae h_22
     exact cu
   ·refine ay rfl hc_25 wz (af (af (af (af (aa (vB false) (aa (vB false) (af (af (af (aa (vB false) (aa (vB false) (ah ?_))))))))))))
    obtain rfl:=ae h_22
    exact cu
  ·rintro ⟨⟩ _ sl_ H_ hp_ hq_
   refine aP _ hp_ hq_ ?_
   obtain rfl:=ae hF
   exact ax (aK [(vB v_21)] ⟨rfl,trivial⟩)
theorem vH {a_1:Alert} {r:Int} (hF:fV a_1=some r) :
  FnM Tryz.prog 43 [(.d (.agg (Alert.enc a_1)))] [] (vI r) []:=by
 refine FnM.of_wH ⟨Tryz.prog,92,[],[]⟩ rfl Tryz.func43 rfl rfl (lb_ rfl) (by kernel_rfl) ?_
 unfold fV at hF
 refine ai (lY 0 (.inl rfl) (Alert.v a_1) rfl rfl wz (λn_2=>aa (vI 0) (ah (au (au ?_)))))
 obtain ⟨v_3,h_4,hF⟩:=bind_some hF
 refine aN [(1,(.ref n_2 0 0)),(17,(vB v_3))] [(n_2,some (.cells 9 (Alert.v a_1)))] ?_ ?_
 ·refine av (aG jT rfl 0 rfl wz (aI 0 0 il ft sz9 ag9 rfl rfl (vS a_1.Id) rfl wz ?_))
  obtain ⟨r_5,hr_6,h_4⟩:=bind_some h_4
  refine aD (oL hr_6) rfl hb67 rfl rfl rfl rfl wz (aa (vB (!r_5)) ?_)
  rcases aj h_4 with⟨hc_7,h_4⟩|⟨hc_7,h_4⟩
  ·refine ay rfl hc_7 wz (af (af (af (af (aa (vB true) (ah ?_))))))
   obtain rfl:=ae h_4
   exact cu
  ·refine ay rfl hc_7 wz (aG Bo rfl 1 rfl wa (aI 0 0 il ft sz9 ag9 rfl rfl (vS a_1.Sender) rfl wa ?_))
   obtain ⟨r_8,hr_9,h_4⟩:=bind_some h_4
   refine aD (oL hr_9) rfl hb67 rfl rfl rfl rfl wa (aH (vB (!r_8)) wa rfl (aa (vB (!r_8)) (ah ?_)))
   obtain rfl:=ae h_4
   exact cu
 ·rintro ⟨⟩ _ sl_ H_ hp_ hq_
  refine aP _ hp_ hq_ ?_
  rcases aj hF with⟨hc_10,hF⟩|⟨hc_10,hF⟩
  ·refine aC rfl hc_10 (ai (aa (vI 5) (ah ?_)))
   obtain rfl:=ae hF
   exact ax (aK [(vI 5)] ⟨rfl,trivial⟩)
  ·refine aB rfl hc_10 (aA (au (ai (aG mr rfl 2 rfl wz (aI 0 0 il ft sz3 ag3 rfl rfl (vI a_1.Kind) rfl wz ?_)))))
   obtain ⟨r_11,hr_12,hF⟩:=bind_some hF
   refine aD (fE hr_12) rfl EU rfl rfl rfl rfl wz (ah ?_)
   rcases aj hF with⟨hc_13,hF⟩|⟨hc_13,hF⟩
   ·refine aC rfl hc_13 (ai (aa (vI 4) (ah ?_)))
    obtain rfl:=ae hF
    exact ax (aK [(vI 4)] ⟨rfl,trivial⟩)
   ·refine aB rfl hc_13 (aA (au (ai (aI 0 0 il ft iT mQ rfl rfl (.d (.agg (Alert.enc a_1))) rfl wz ?_))))
    obtain ⟨r_14,hr_15,hF⟩:=bind_some hF
    refine aD (wQ hr_15) rfl hb69 rfl rfl rfl rfl wz (aa (vI r_14) (ah (ai (aa (vI r_14) (aa (vB (r_14 != 0)) (ah ?_))))))
    rcases aj hF with⟨hc_16,hF⟩|⟨hc_16,hF⟩
    ·refine aC rfl hc_16 (ai (aa (vI r_14) (aa (vI r_14) (ah ?_))))
     obtain rfl:=ae hF
     exact ax (aK [(vI r_14)] ⟨rfl,trivial⟩)
    ·refine aB rfl hc_16 (aA (au (au ?_)))
     obtain ⟨v_17,h_18,hF⟩:=bind_some hF
     refine aN [(1,(.ref n_2 0 0)),(45,(vB v_17))] [(n_2,some (.cells 9 (Alert.v a_1)))] ?_ ?_
     ·refine av (aG jb rfl 4 rfl wz (aI 0 0 il ft sz3 ag3 rfl rfl (vI a_1.At) rfl wz ?_))
      obtain ⟨r_19,hr_20,h_18⟩:=bind_some h_18
      refine aD (zG hr_20) rfl hb70 rfl rfl rfl rfl wz (aa (vB (!r_19)) ?_)
      rcases aj h_18 with⟨hc_21,h_18⟩|⟨hc_21,h_18⟩
      ·refine ay rfl hc_21 wz (af (af (af (af (af (af (af (af (af (aa (vB true) (aa (vB true) (af (af (af (aa (vB true) (ah ?_))))))))))))))))
       obtain rfl:=ae h_18
       exact cu
      ·refine ay rfl hc_21 wz (aG wC rfl 5 rfl wa (aI 0 0 il ft sz3 ag3 rfl rfl (vI a_1.Until) rfl wa (aG jb rfl 4 rfl wa (aI 0 0 il ft sz3 ag3 rfl rfl (vI a_1.At) rfl wa (aH (vI (w64 (a_1.At+1))) wa rfl (aG jb rfl 4 rfl wa (aI 0 0 il ft sz3 ag3 rfl rfl (vI a_1.At) rfl wa (aH (vI (w64 (a_1.At+2592000000))) wa rfl ?_))))))))
       obtain ⟨r_22,hr_23,h_18⟩:=bind_some h_18
       refine aD (fE hr_23) rfl EU rfl rfl rfl rfl wa (aa (vB r_22) ?_)
       rcases aj h_18 with⟨hc_24,h_18⟩|⟨hc_24,h_18⟩
       ·refine ay rfl hc_24 wz (af (af (af (aa (vB true) (ah ?_)))))
        obtain rfl:=ae h_18
        exact cu
       ·refine ay rfl hc_24 wz (aG Aw rfl 6 rfl wa (aI 0 0 il ft sz3 ag3 rfl rfl (vI a_1.Weight) rfl wa ?_))
        obtain ⟨r_25,hr_26,h_18⟩:=bind_some h_18
        refine aD (fE hr_26) rfl EU rfl rfl rfl rfl wa (aa (vB r_25) (ah ?_))
        obtain rfl:=ae h_18
        exact cu
     ·rintro ⟨⟩ _ sl_ H_ hp_ hq_
      refine aP _ hp_ hq_ ?_
      rcases aj hF with⟨hc_27,hF⟩|⟨hc_27,hF⟩
      ·refine aC rfl hc_27 (ai (aa (vI 1) (ah ?_)))
       obtain rfl:=ae hF
       exact ax (aK [(vI 1)] ⟨rfl,trivial⟩)
      ·refine aB rfl hc_27 (aA (au (ai (aG jE rfl 7 rfl wz (aI 0 0 il ft rR xZ rfl rfl (vL Rect.enc a_1.Areas) rfl wz (dz Cx rfl wz (aa (vB (decide ((a_1.Areas.length:Int)>20))) (ah ?_))))))))
       rcases aj hF with⟨hc_28,hF⟩|⟨hc_28,hF⟩
       ·refine aC rfl hc_28 (ai (aa (vI 2) (ah ?_)))
        obtain rfl:=ae hF
        exact ax (aK [(vI 2)] ⟨rfl,trivial⟩)
       ·refine aB rfl hc_28 (aA (au (ai (aG jE rfl 7 rfl wz (aI 0 0 il ft rR xZ rfl rfl (vL Rect.enc a_1.Areas) rfl wz (dz Cx rfl wz (aa (vI 0) (ah ?_))))))))
        obtain ⟨o_37,hj_38,hF⟩:=bind_some hF
        obtain ⟨hn_33,hj_38⟩:=bu hj_38
        refine dU (λ(s_34:Unit)=>[(1,(.ref n_2 0 0))]) (λ(s_34:Unit)=>[(n_2,some (.cells 9 (Alert.v a_1)))]) (λ(k_29:Nat)=>(λ(s_34:Unit)=>[(1,(.ref n_2 0 0)),(51,(vL Rect.enc a_1.Areas)),(52,(vI (a_1.Areas.length:Int))),(53,(vI (k_29:Int)))])) (λk x s=>eB k x s) o_37 a_1.Areas () hj_38 rfl (aM rfl) ?_ ?_
        ·rintro ⟨k_29,l_30,s_34⟩ ⟨hL_36,hD_32⟩
         dsimp only at hL_36 hD_32
         cases l_30 with
         | nil =>
          obtain rfl:=ae hL_36
          refine ai (aa (vB (decide ((k_29:Int)<(a_1.Areas.length:Int)))) (ah ?_))
          refine au (aB rfl (drop_nil hD_32) (bO ?_))
          exact bD (s_34) rfl rfl (aM rfl)
         | cons x_31 l_30 =>
          obtain ⟨c_,hc_35,hL_36⟩:=bind_some hL_36
          refine ai (aa (vB (decide ((k_29:Int)<(a_1.Areas.length:Int)))) (ah ?_))
          refine au (aC rfl (bL hD_32) (aA ?_))
          unfold eB at hc_35
          refine au (aR (ai (eD Au rfl rfl (dh hD_32) rfl wz (bK nW Aj rfl (.d (.agg (Rect.enc x_31))) rfl wz (gN 0 (.inl rfl) z64 rfl wz (λn_39=>fe 0 il ft 1 nW rfl rfl (Rect.v x_31) rfl wz (ah (ai (aI 0 1 il ft nW Aj rfl rfl (.d (.agg (Rect.enc x_31))) rfl wz ?_)))))))))
          obtain ⟨r_40,hr_41,hc_35⟩:=bind_some hc_35
          refine aD (vM hr_41) rfl hb71 rfl rfl rfl rfl wz (aa (vI r_40) (ah (ai (aa (vI r_40) (aa (vB (r_40 != 0)) (ah ?_))))))
          rcases aj hc_35 with⟨hc_42,hc_35⟩|⟨hc_42,hc_35⟩
          ·refine aC rfl hc_42 (ai (aa (vI r_40) (aa (vI r_40) (ah ?_))))
           obtain rfl:=ae hc_35
           obtain rfl:=ae hL_36
           obtain rfl:=ae hF
           exact ax (aK [(vI r_40)] ⟨rfl,trivial⟩)
          ·refine aB rfl hc_42 (aA (av (gY (cZ hD_32 hn_33) wz rfl (aa (vI ((k_29+1:Nat):Int)) (ah ?_)))))
           obtain rfl:=ae hc_35
           exact bN (k_29+1,l_30,()) ⟨hL_36,bn hD_32⟩ (ls_ _) rfl (aM rfl)
        ·rintro s_34 ho_ sl_ H_ hp_ hq_
         subst ho_
         refine aP _ hp_ hq_ (ai (aG mr rfl 2 rfl wz (aI 0 0 il ft sz3 ag3 rfl rfl (vI a_1.Kind) rfl wz (aa (vB (a_1.Kind==3)) (aa (vB (a_1.Kind==3)) (ah (au (aR (ai (aa (vB (a_1.Kind==3)) (aG jE rfl 7 rfl wz (aI 0 0 il ft rR xZ rfl rfl (vL Rect.enc a_1.Areas) rfl wz (dz Cx rfl wz (aa (vB ((a_1.Areas.length:Int)==0)) (Ed un4 rfl rfl wz (aa (vB (!((a_1.Kind==3)==((a_1.Areas.length:Int)==0)))) (ah ?_)))))))))))))))))
         rcases aj hF with⟨hc_43,hF⟩|⟨hc_43,hF⟩
         ·refine aC rfl hc_43 (ai (aa (vI 3) (ah ?_)))
          obtain rfl:=ae hF
          exact ax (aK [(vI 3)] ⟨rfl,trivial⟩)
         ·refine aB rfl hc_43 (ai (aG kC rfl 8 rfl wz (aI 0 0 il ft sz9 ag9 rfl rfl (vS a_1.Text) rfl wz (iU un9 rfl wz (aa (vB (decide ((a_1.Text.size:Int)>500))) (aa (vB (decide ((a_1.Text.size:Int)>500))) (ah ?_)))))))
          rcases aj hF with⟨hc_44,hF⟩|⟨hc_44,hF⟩
          ·refine aC rfl hc_44 (ai (aa (vI 2) (ah ?_)))
           obtain rfl:=ae hF
           exact ax (aK [(vI 2)] ⟨rfl,trivial⟩)
          ·refine aB rfl hc_44 (au ?_)
           obtain ⟨v_45,h_46,hF⟩:=bind_some hF
           refine aN [(78,(vB v_45))] [(n_2,some (.cells 9 (Alert.v a_1)))] ?_ ?_
           ·refine av (aG kC rfl 8 rfl wz (aI 0 0 il ft sz9 ag9 rfl rfl (vS a_1.Text) rfl wz ?_))
            obtain ⟨r_47,hr_48,h_46⟩:=bind_some h_46
            refine aD (Br hr_48) rfl hb72 rfl rfl rfl rfl wz (aa (vB (!r_47)) ?_)
            rcases aj h_46 with⟨hc_49,h_46⟩|⟨hc_49,h_46⟩
            ·refine ay rfl hc_49 wz (af (af (af (af (aX (wn rfl rfl) (aX (wn rfl rfl) (af (aa (vB true) (aa (vB true) (ah ?_))))))))))
             obtain rfl:=ae h_46
             exact cu
            ·refine ay rfl hc_49 wz (aG kC rfl 8 rfl wa (aI 0 0 il ft sz9 ag9 rfl rfl (vS a_1.Text) rfl wa (aH (vB (sEq a_1.Text (⟨#[]⟩:ByteArray))) wa rfl ?_)))
             rcases aj h_46 with⟨hc_50,h_46⟩|⟨hc_50,h_46⟩
             ·refine ay rfl hc_50 wa (aH (vB (a_1.Kind==3)) wa rfl (aH (vB (!(a_1.Kind==3))) wa rfl (aH (vB (!(a_1.Kind==3))) wa rfl (aa (vB (!(a_1.Kind==3))) (aa (vB (!(a_1.Kind==3))) (ah ?_))))))
              obtain rfl:=ae h_46
              exact cu
             ·refine ay rfl hc_50 wa (af (af (aH (vB false) wa rfl (aa (vB false) (aa (vB false) (ah ?_))))))
              obtain rfl:=ae h_46
              exact cu
           ·rintro ⟨⟩ _ sl_ H_ hp_ hq_
            refine aP _ hp_ hq_ ?_
            rcases aj hF with⟨hc_51,hF⟩|⟨hc_51,hF⟩
            ·refine aC rfl hc_51 (ai (aa (vI 3) (ah ?_)))
             obtain rfl:=ae hF
             exact ax (aK [(vI 3)] ⟨rfl,trivial⟩)
            ·refine aB rfl hc_51 (aA (ai (aa (vI 0) (ah ?_))))
             obtain rfl:=ae hF
             exact ax (aK [(vI 0)] ⟨rfl,trivial⟩)
theorem rC {x_1:Int} {r:Bool} (hF:cmp_isNaN_int x_1=some r) :
  FnM Tryz.prog 104 [(vI x_1)] [] (vB r) []:=by
 refine FnM.of_wH ⟨Tryz.prog,6,[],[]⟩ rfl Tryz.func104 rfl rfl (lb_ rfl) (by kernel_rfl) ?_
 unfold cmp_isNaN_int at hF
 refine ai (aa (vB false) (ah (ai (aa (vI x_1) (aa (vI x_1) (aa (vB (x_1 != x_1)) (aa (vB (x_1 != x_1)) (ah ?_))))))))
 obtain rfl:=ae hF
 exact ax (aK [(vB (x_1 != x_1))] ⟨rfl,trivial⟩)
theorem wV {x_1:Int} {y_2:Int} {r:Int} (hF:cmp_Compare_int x_1 y_2=some r) :
  FnM Tryz.prog 74 [(vI x_1),(vI y_2)] [] (vI r) []:=by
 refine FnM.of_wH ⟨Tryz.prog,20,[],[]⟩ rfl Tryz.func74 rfl rfl (lb_ rfl) (by kernel_rfl) ?_
 unfold cmp_Compare_int at hF
 refine ai (aa (vI 0) (ah (ai (aa (vI x_1) ?_))))
 obtain ⟨r_3,hr_4,hF⟩:=bind_some hF
 refine aD (rC hr_4) rfl hb104 rfl rfl rfl rfl wz (aa (vB r_3) (ah (ai (aa (vI y_2) ?_))))
 obtain ⟨r_5,hr_6,hF⟩:=bind_some hF
 refine aD (rC hr_6) rfl hb104 rfl rfl rfl rfl wz (aa (vB r_5) (ah (au (ai (aa (vB r_3) (ah ?_))))))
 rcases aj hF with⟨hc_7,hF⟩|⟨hc_7,hF⟩
 ·refine aC rfl hc_7 (au (ai (aa (vB r_5) (ah ?_))))
  rcases aj hF with⟨hc_8,hF⟩|⟨hc_8,hF⟩
  ·refine aC rfl hc_8 (ai (aa (vI 0) (ah ?_)))
   obtain rfl:=ae hF
   exact ax (aK [(vI 0)] ⟨rfl,trivial⟩)
  ·refine aB rfl hc_8 (aA (ai (aa (vI (-1)) (ah ?_))))
   obtain rfl:=ae hF
   exact ax (aK [(vI (-1))] ⟨rfl,trivial⟩)
 ·refine aB rfl hc_7 (aA (au (ai (aa (vB r_5) (ah ?_)))))
  rcases aj hF with⟨hc_9,hF⟩|⟨hc_9,hF⟩
  ·refine aC rfl hc_9 (ai (aa (vI 1) (ah ?_)))
   obtain rfl:=ae hF
   exact ax (aK [(vI 1)] ⟨rfl,trivial⟩)
  ·refine aB rfl hc_9 (aA (au (ai (aa (vI x_1) (aa (vI y_2) (aa (vB (decide (x_1<y_2))) (ah ?_)))))))
   rcases aj hF with⟨hc_10,hF⟩|⟨hc_10,hF⟩
   ·refine aC rfl hc_10 (ai (aa (vI (-1)) (ah ?_)))
    obtain rfl:=ae hF
    exact ax (aK [(vI (-1))] ⟨rfl,trivial⟩)
   ·refine aB rfl hc_10 (aA (au (ai (aa (vI x_1) (aa (vI y_2) (aa (vB (decide (x_1>y_2))) (ah ?_)))))))
    rcases aj hF with⟨hc_11,hF⟩|⟨hc_11,hF⟩
    ·refine aC rfl hc_11 (ai (aa (vI 1) (ah ?_)))
     obtain rfl:=ae hF
     exact ax (aK [(vI 1)] ⟨rfl,trivial⟩)
    ·refine aB rfl hc_11 (aA (ai (aa (vI 0) (ah ?_))))
     obtain rfl:=ae hF
     exact ax (aK [(vI 0)] ⟨rfl,trivial⟩)
theorem l9 {a_1:ByteArray} {b_2:ByteArray} {r:Int} (hF:fT a_1 b_2=some r) :
  FnM Tryz.prog 83 [(vS a_1),(vS b_2)] [] (vI r) []:=by
 refine FnM.of_wH ⟨Tryz.prog,8,[],[]⟩ rfl Tryz.func83 rfl rfl (lb_ rfl) (by kernel_rfl) ?_
 unfold fT at hF
 refine ai (aa (vI 0) (ah (ai (aa (vS a_1) (aa (vS b_2) (h_ext (MN (f:=117) Tryz.func117 rfl rfl (by kernel_rfl) (by kernel_rfl) _ _) rfl nb117 rfl wz (aa (vI (zZ a_1 b_2)) (ah ?_))))))))
 obtain rfl:=ae hF
 exact ax (aK [(vI (zZ a_1 b_2))] ⟨rfl,trivial⟩)
theorem o6 {a_1:ByteArray} {b_2:ByteArray} {r:Int} (hF:strings_Compare a_1 b_2=some r) :
  FnM Tryz.prog 53 [(vS a_1),(vS b_2)] [] (vI r) []:=by
 refine FnM.of_wH ⟨Tryz.prog,8,[],[]⟩ rfl Tryz.func53 rfl rfl (lb_ rfl) (by kernel_rfl) ?_
 unfold strings_Compare at hF
 refine ai (aa (vI 0) (ah (ai (aa (vS a_1) (aa (vS b_2) ?_)))))
 obtain ⟨r_3,hr_4,hF⟩:=bind_some hF
 refine aD (l9 hr_4) rfl hb83 rfl rfl rfl rfl wz (aa (vI r_3) (ah ?_))
 obtain rfl:=ae hF
 exact ax (aK [(vI r_3)] ⟨rfl,trivial⟩)
theorem Cc {vals_1:(List Int)} {r:Int} (hF:pF vals_1=some r) :
  FnM Tryz.prog 73 [(vL eI vals_1)] [] (vI r) []:=by
 refine FnM.of_wH ⟨Tryz.prog,18,[],[]⟩ rfl Tryz.func73 rfl rfl (lb_ rfl) (by kernel_rfl) ?_
 unfold pF at hF
 refine ai (aa (vI 0) (ah (ai (aa (vI 0) (ah (au (ai (aa (vL eI vals_1) (dz IA rfl wz (aa (vI 0) (ah ?_)))))))))))
 obtain ⟨o_10,hj_11,hF⟩:=bind_some hF
 obtain ⟨hn_6,hj_11⟩:=bu hj_11
 refine dU (λ(s_7:Unit)=>[(3,(vI 0))]) (λ(s_7:Unit)=>[]) (λ(k_2:Nat)=>(λ(s_7:Unit)=>[(3,(vI 0)),(6,(vL eI vals_1)),(7,(vI (vals_1.length:Int))),(8,(vI (k_2:Int)))])) (λk x s=>nK k x s) o_10 vals_1 () hj_11 rfl (aM rfl) ?_ ?_
 ·rintro ⟨k_2,l_3,s_7⟩ ⟨hL_9,hD_5⟩
  dsimp only at hL_9 hD_5
  cases l_3 with
  | nil =>
   obtain rfl:=ae hL_9
   refine ai (aa (vB (decide ((k_2:Int)<(vals_1.length:Int)))) (ah ?_))
   refine au (aB rfl (drop_nil hD_5) (bO ?_))
   exact bD (s_7) rfl rfl (aM rfl)
  | cons x_4 l_3 =>
   obtain ⟨c_,hc_8,hL_9⟩:=bind_some hL_9
   refine ai (aa (vB (decide ((k_2:Int)<(vals_1.length:Int)))) (ah ?_))
   refine au (aC rfl (bL hD_5) (aA ?_))
   unfold nK at hc_8
   refine au (aR (ai (eD jZ rfl rfl (dh hD_5) rfl wz (bK sz3 ag3 rfl (vI x_4) rfl wz (aa (vI x_4) (ah (ai (aa (vI x_4) (aa (vI 0) (aa (vB (x_4 != 0)) (ah ?_)))))))))))
   rcases aj hc_8 with⟨hc_12,hc_8⟩|⟨hc_12,hc_8⟩
   ·refine aC rfl hc_12 (ai (aa (vI x_4) (aa (vI x_4) (ah ?_))))
    obtain rfl:=ae hc_8
    obtain rfl:=ae hL_9
    obtain rfl:=ae hF
    exact ax (aK [(vI x_4)] ⟨rfl,trivial⟩)
   ·refine aB rfl hc_12 (aA (av (gY (cZ hD_5 hn_6) wz rfl (aa (vI ((k_2+1:Nat):Int)) (ah ?_)))))
    obtain rfl:=ae hc_8
    exact bN (k_2+1,l_3,()) ⟨hL_9,bn hD_5⟩ (ls_ _) rfl (aM rfl)
 ·rintro s_7 ho_ sl_ H_ hp_ hq_
  subst ho_
  refine aP _ hp_ hq_ (ai (aa (vI 0) (aa (vI 0) (ah ?_))))
  obtain rfl:=ae hF
  exact ax (aK [(vI 0)] ⟨rfl,trivial⟩)
end Go.Proofs.YtljhfffghjclfaaGreatDoor.Law

