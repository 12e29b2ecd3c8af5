/-
 The machine computes these plain functions (written by a program of ours).
-/
import Derived.Test.YtekmkepojbhafaeGreatDoorFacts
import Derived.Test.YtekmkepojbhafaeGreatDoorDefs
import Derived.Test.YtekmkepojbhafaeGreatDoorPf1
import Derived.Test.YtekmkepojbhafaeGreatDoorShelf
open Go Go.Eng Go.Proofs
namespace Go.Proofs.YtekmkepojbhafaeGreatDoor.Law
set_option maxRecDepth 100000
set_option linter.unusedVariables false
set_option maxHeartbeats 1000000
theorem uH {s_1:Stream} {most_2:Int} {r:(List Alert)×Stream} (hF:jb s_1 most_2=some r) :
  FnM Tryz.prog 4 [(.ref (av 0) 0 0),(vI most_2)] [(.cells 2 [(vL eI s_1.L),(vI s_1.f_at)])] (vL Alert.enc r.1) [some (.cells 2 [(vL eI r.2.L),(vI r.2.f_at)])]:=by
 refine FnM.of_wH ⟨Tryz.prog,99,[],[]⟩ rfl Tryz.func4 rfl rfl (lb_ rfl) (by kernel_rfl) ?_
 unfold jb at hF
 refine ai (aa .nil (af (ai (aa (.ref (av 0) 0 0) (aa (vI most_2) ?_)))))
 obtain ⟨r_3,hr_4,hF⟩:=bind_some hF
 refine h_callg [0] (pJ hr_4) rfl hb20 rfl (by kernel_rfl) (by kernel_rfl) (by kernel_rfl) (by kernel_rfl) (by kernel_rfl) rfl (by decide) (by kernel_rfl) wz ([((av 0),some (.cells 2 [(vL eI r_3.2.L),(vI r_3.2.f_at)]))]:Hp) (λ_=>by kernel_rfl) (λn_6=>aa (gV n_6 9 r_3.1) (af (ak (ak ?_))))
 obtain ⟨v_7,h_8,hF⟩:=bind_some hF
 refine aO [(0,(.ref (av 0) 0 0)),(5,(gV n_6 9 r_3.1)),(16,(vB v_7.1))] [((av 0),some (.cells 2 [(vL eI v_7.2.1),(vI v_7.2.2)])),(n_6,gB 9 Alert.enc r_3.1)] ?_ ?_
 ·refine au (aa (gV n_6 9 r_3.1) (CB qi rfl wz (aa (vB (decide ((r_3.1.length:Int)>0))) ?_)))
  rcases aj h_8 with⟨hc_9,h_8⟩|⟨hc_9,h_8⟩
  ·refine aC rfl hc_9 wz (aI (.ref (av 0) 0 0) wa rfl ?_)
   obtain ⟨r_10,hr_11,h_8⟩:=bind_some h_8
   refine aV 0 [0] il ft (iM hr_11) rfl Ko rfl (by kernel_rfl) (by kernel_rfl) (by kernel_rfl) (by kernel_rfl) (by kernel_rfl) (by kernel_rfl) (by kernel_rfl) (by decide) (by kernel_rfl) wa (vB r_10.1) (by kernel_rfl) ([((av 0),some (.cells 2 [(vL eI r_10.2.L),(vI r_10.2.f_at)])),(n_6,gB 9 Alert.enc r_3.1)]:Hp) (by kernel_rfl) (aa (vB r_10.1) (af ?_))
   obtain rfl:=ae h_8
   exact cu
  ·refine aC rfl hc_9 wz (ah (ah (aa (vB false) (af ?_))))
   obtain rfl:=ae h_8
   exact cu
 ·rintro ⟨⟩ _ sl_ H_ hp_ hq_
  refine aP _ hp_ hq_ ?_
  obtain ⟨v_13,h_14,hF⟩:=bind_some hF
  refine aO [(5,(gV n_6 9 v_13.1))] [((av 0),some (.cells 2 [(vL eI v_13.2.1),(vI v_13.2.2)])),(n_6,gB 9 Alert.enc v_13.1)] ?_ ?_
  ·rcases aj h_14 with⟨hc_15,h_14⟩|⟨hc_15,h_14⟩
   ·refine aB rfl hc_15 (ai (aa (gV n_6 9 r_3.1) (aa (.ref (av 0) 0 0) (aa (gV n_6 9 r_3.1) (CB qi rfl wz ?_)))))
    obtain ⟨r_16,hr_17,h_14⟩:=bind_some h_14
    refine aV 0 [0] il ft (ed hr_17) rfl DV rfl (by kernel_rfl) (by kernel_rfl) (by kernel_rfl) (by kernel_rfl) (by kernel_rfl) (by kernel_rfl) (by kernel_rfl) (by decide) (by kernel_rfl) wz (vI r_16.1) (by kernel_rfl) ([((av 0),some (.cells 2 [(vL eI r_16.2.L),(vI r_16.2.f_at)])),(n_6,gB 9 Alert.enc r_3.1)]:Hp) (by kernel_rfl) ?_
    obtain ⟨_,hi_19,h_14⟩:=bind_some h_14
    refine CQ nM rfl rfl (nD hi_19) (ko hi_19) wz (aa (.ref n_6 (0+(r_16.1).toNat) 0) (af (ai (aa (.ref (av 0) 0 0) ?_))))
    obtain ⟨r_20,hr_21,h_14⟩:=bind_some h_14
    refine aV 0 [0] il ft (ed hr_21) rfl DV rfl (by kernel_rfl) (by kernel_rfl) (by kernel_rfl) (by kernel_rfl) (by kernel_rfl) (by kernel_rfl) (by kernel_rfl) (by decide) (by kernel_rfl) wz (vI r_20.1) (by kernel_rfl) ([((av 0),some (.cells 2 [(vL eI r_20.2.L),(vI r_20.2.f_at)])),(n_6,gB 9 Alert.enc r_3.1)]:Hp) (by kernel_rfl) (af (aN (ai (aa (vB (r_20.1==0)) (aa (vB (r_20.1==0)) (af ?_))))))
    rcases aj h_14 with⟨hc_23,h_14⟩|⟨hc_23,h_14⟩
    ·refine aB rfl hc_23 (au (aa (.ref n_6 (0+(r_16.1).toNat) 0) (aa (.ref n_6 (0+(r_16.1).toNat) 0) (aa (.ref (av 0) 0 0) (aa (.ref n_6 (0+(r_16.1).toNat) 0) (aa (.ref n_6 (0+(r_16.1).toNat) 0) (aH fw rfl 0 rfl wz ?_)))))))
     obtain ⟨e_24,hy_25,h_14⟩:=bind_some h_14
     refine mW 0 1 il ft sz9 ag9 rfl rfl hy_25 (vS e_24.Id) rfl wz (eO (([e_24.Id,(⟨#[]⟩:ByteArray),(⟨#[97,97]⟩:ByteArray)]:List ByteArray).map eS) iL oM rfl rfl rfl rfl rfl wz ?_)
     obtain ⟨r_26,hr_27,h_14⟩:=bind_some h_14
     refine aV 0 [0] il ft (fE hr_27) rfl hb5 rfl (by kernel_rfl) (by kernel_rfl) (by kernel_rfl) (by kernel_rfl) (by kernel_rfl) (by kernel_rfl) (by kernel_rfl) (by decide) (by kernel_rfl) wz (vS r_26.1) (by kernel_rfl) ([((av 0),some (.cells 2 [(vL eI r_26.2.L),(vI r_26.2.f_at)])),(n_6,gB 9 Alert.enc r_3.1)]:Hp) (by kernel_rfl) (aa (.ref (av 0) 0 0) (eO (([(⟨#[119,120]⟩:ByteArray),(⟨#[65]⟩:ByteArray)]:List ByteArray).map eS) iL oM rfl rfl rfl rfl rfl wz ?_))
     obtain ⟨r_29,hr_30,h_14⟩:=bind_some h_14
     refine aV 0 [0] il ft (fE hr_30) rfl hb5 rfl (by kernel_rfl) (by kernel_rfl) (by kernel_rfl) (by kernel_rfl) (by kernel_rfl) (by kernel_rfl) (by kernel_rfl) (by decide) (by kernel_rfl) wz (vS r_29.1) (by kernel_rfl) ([((av 0),some (.cells 2 [(vL eI r_29.2.L),(vI r_29.2.f_at)])),(n_6,gB 9 Alert.enc r_3.1)]:Hp) (by kernel_rfl) (aa (.ref n_6 (0+(r_16.1).toNat) 0) (aH fw rfl 0 rfl wz ?_))
     obtain ⟨e_32,hy_33,h_14⟩:=bind_some h_14
     refine l6 0 il ft 1 sz9 rfl rfl hy_33 (⟨r_26.1,e_32.Sender,e_32.Kind,e_32.Refs,e_32.At,e_32.Until,e_32.Weight,e_32.Areas,e_32.Text⟩:Alert) rfl wz (dQ (v':=(gV n_6 9 (r_3.1.set (0+(r_16.1).toNat) (⟨r_26.1,e_32.Sender,e_32.Kind,e_32.Refs,e_32.At,e_32.Until,e_32.Weight,e_32.Areas,e_32.Text⟩:Alert)))) 5 rfl (dK (by simp)) (dQ (v':=(gV n_6 9 (r_3.1.set (0+(r_16.1).toNat) (⟨r_26.1,e_32.Sender,e_32.Kind,e_32.Refs,e_32.At,e_32.Until,e_32.Weight,e_32.Areas,e_32.Text⟩:Alert)))) 17 rfl (dK (by simp)) (dQ (v':=(gV n_6 9 (r_3.1.set (0+(r_16.1).toNat) (⟨r_26.1,e_32.Sender,e_32.Kind,e_32.Refs,e_32.At,e_32.Until,e_32.Weight,e_32.Areas,e_32.Text⟩:Alert)))) 19 rfl (dK (by simp)) (aa (.ref n_6 (0+(r_16.1).toNat) 0) (aH vz rfl 1 rfl wz ?_)))))
     obtain ⟨e_34,hy_35,h_14⟩:=bind_some h_14
     refine l6 0 il ft 1 sz9 rfl rfl hy_35 (⟨e_34.Id,r_29.1,e_34.Kind,e_34.Refs,e_34.At,e_34.Until,e_34.Weight,e_34.Areas,e_34.Text⟩:Alert) rfl wz (dQ (v':=(gV n_6 9 ((r_3.1.set (0+(r_16.1).toNat) (⟨r_26.1,e_32.Sender,e_32.Kind,e_32.Refs,e_32.At,e_32.Until,e_32.Weight,e_32.Areas,e_32.Text⟩:Alert)).set (0+(r_16.1).toNat) (⟨e_34.Id,r_29.1,e_34.Kind,e_34.Refs,e_34.At,e_34.Until,e_34.Weight,e_34.Areas,e_34.Text⟩:Alert)))) 5 rfl (dK (by simp)) (dQ (v':=(gV n_6 9 ((r_3.1.set (0+(r_16.1).toNat) (⟨r_26.1,e_32.Sender,e_32.Kind,e_32.Refs,e_32.At,e_32.Until,e_32.Weight,e_32.Areas,e_32.Text⟩:Alert)).set (0+(r_16.1).toNat) (⟨e_34.Id,r_29.1,e_34.Kind,e_34.Refs,e_34.At,e_34.Until,e_34.Weight,e_34.Areas,e_34.Text⟩:Alert)))) 17 rfl (dK (by simp)) (dQ (v':=(gV n_6 9 ((r_3.1.set (0+(r_16.1).toNat) (⟨r_26.1,e_32.Sender,e_32.Kind,e_32.Refs,e_32.At,e_32.Until,e_32.Weight,e_32.Areas,e_32.Text⟩:Alert)).set (0+(r_16.1).toNat) (⟨e_34.Id,r_29.1,e_34.Kind,e_34.Refs,e_34.At,e_34.Until,e_34.Weight,e_34.Areas,e_34.Text⟩:Alert)))) 19 rfl (dK (by simp)) (af ?_))))
     obtain rfl:=ae h_14
     exact cu
    ·refine aA rfl hc_23 (ai (aa (vB (r_20.1==1)) (aa (vB (r_20.1==1)) (af ?_))))
     rcases aj h_14 with⟨hc_36,h_14⟩|⟨hc_36,h_14⟩
     ·refine aB rfl hc_36 (au (aa (.ref n_6 (0+(r_16.1).toNat) 0) (aa (.ref (av 0) 0 0) ?_)))
      obtain ⟨r_37,hr_38,h_14⟩:=bind_some h_14
      refine aV 0 [0] il ft (fM hr_38) rfl F5 rfl (by kernel_rfl) (by kernel_rfl) (by kernel_rfl) (by kernel_rfl) (by kernel_rfl) (by kernel_rfl) (by kernel_rfl) (by decide) (by kernel_rfl) wz (vI r_37.1) (by kernel_rfl) ([((av 0),some (.cells 2 [(vL eI r_37.2.L),(vI r_37.2.f_at)])),(n_6,gB 9 Alert.enc r_3.1)]:Hp) (by kernel_rfl) (aa (.ref n_6 (0+(r_16.1).toNat) 0) (aH nQ rfl 2 rfl wz ?_))
      obtain ⟨e_40,hy_41,h_14⟩:=bind_some h_14
      refine l6 0 il ft 1 sz3 rfl rfl hy_41 (⟨e_40.Id,e_40.Sender,r_37.1,e_40.Refs,e_40.At,e_40.Until,e_40.Weight,e_40.Areas,e_40.Text⟩:Alert) rfl wz (dQ (v':=(gV n_6 9 (r_3.1.set (0+(r_16.1).toNat) (⟨e_40.Id,e_40.Sender,r_37.1,e_40.Refs,e_40.At,e_40.Until,e_40.Weight,e_40.Areas,e_40.Text⟩:Alert)))) 5 rfl (dK (by simp)) (dQ (v':=(gV n_6 9 (r_3.1.set (0+(r_16.1).toNat) (⟨e_40.Id,e_40.Sender,r_37.1,e_40.Refs,e_40.At,e_40.Until,e_40.Weight,e_40.Areas,e_40.Text⟩:Alert)))) 17 rfl (dK (by simp)) (dQ (v':=(gV n_6 9 (r_3.1.set (0+(r_16.1).toNat) (⟨e_40.Id,e_40.Sender,r_37.1,e_40.Refs,e_40.At,e_40.Until,e_40.Weight,e_40.Areas,e_40.Text⟩:Alert)))) 19 rfl (dK (by simp)) (af ?_))))
      obtain rfl:=ae h_14
      exact cu
     ·refine aA rfl hc_36 (ai (aa (vB (r_20.1==2)) (aa (vB (r_20.1==2)) (af ?_))))
      rcases aj h_14 with⟨hc_42,h_14⟩|⟨hc_42,h_14⟩
      ·refine aB rfl hc_42 (fG (aa (.ref n_6 (0+(r_16.1).toNat) 0) (eO (([(⟨#[97,98]⟩:ByteArray),(⟨#[97,97]⟩:ByteArray)]:List ByteArray).map eS) iL oM rfl rfl rfl rfl rfl wz (aa (.ref n_6 (0+(r_16.1).toNat) 0) (aa (.ref n_6 (0+(r_16.1).toNat) 0) (aH fw rfl 0 rfl wz ?_))))))
       obtain ⟨e_43,hy_44,h_14⟩:=bind_some h_14
       refine mW 5 1 (.inr (by kernel_rfl)) (λ_ _ ag=>trivial) sz9 ag9 rfl rfl hy_44 (vS e_43.Id) rfl wz (eO (([e_43.Id]:List ByteArray).map eS) iL oM rfl rfl rfl rfl rfl wz (eO (([(⟨#[65]⟩:ByteArray)]:List ByteArray).map eS) iL oM rfl rfl rfl rfl rfl wz (eO (([(⟨#[97,97]⟩:ByteArray),(⟨#[122,122]⟩:ByteArray)]:List ByteArray).map eS) iL oM rfl rfl rfl rfl rfl wz (eO (([([]:List ByteArray),([(⟨#[97,98]⟩:ByteArray),(⟨#[97,97]⟩:ByteArray)]:List ByteArray),([e_43.Id]:List ByteArray),([(⟨#[65]⟩:ByteArray)]:List ByteArray),([(⟨#[97,97]⟩:ByteArray),(⟨#[122,122]⟩:ByteArray)]:List ByteArray)]:List (List ByteArray)).map (eL eS)) es54 ez54 rfl rfl rfl rfl rfl wz (aa (.ref (av 0) 0 0) ?_)))))
       obtain ⟨r_45,hr_46,h_14⟩:=bind_some h_14
       refine aV 11 [0] (.inr (by kernel_rfl)) (λ_ _ ag=>by exact⟨.inr (.inl (dis1 (Ib ag (i:=0) (j:=1) rfl rfl (by decide)))),trivial⟩) (ed hr_46) rfl DV rfl (by kernel_rfl) (by kernel_rfl) (by kernel_rfl) (by kernel_rfl) (by kernel_rfl) (by kernel_rfl) (by kernel_rfl) (by decide) (by kernel_rfl) wz (vI r_45.1) (by kernel_rfl) ([((av 0),some (.cells 2 [(vL eI r_45.2.L),(vI r_45.2.f_at)])),(n_6,gB 9 Alert.enc r_3.1)]:Hp) (by kernel_rfl) ?_
       obtain ⟨y_48,hy_49,h_14⟩:=bind_some h_14
       refine iV es54 rfl rfl hy_49 rfl wz (eP qG tK rfl (vL eS y_48) rfl wz (aa (.ref n_6 (0+(r_16.1).toNat) 0) (aH jl rfl 3 rfl wz ?_)))
       obtain ⟨e_50,hy_51,h_14⟩:=bind_some h_14
       refine l6 16 (.inr (by kernel_rfl)) (λ_ _ ag=>⟨.inr (.inr (by kernel_rfl)),⟨.inr (.inr (by kernel_rfl)),trivial⟩⟩) 1 qG rfl rfl hy_51 (⟨e_50.Id,e_50.Sender,e_50.Kind,y_48,e_50.At,e_50.Until,e_50.Weight,e_50.Areas,e_50.Text⟩:Alert) rfl wz (dQ (v':=(gV n_6 9 (r_3.1.set (0+(r_16.1).toNat) (⟨e_50.Id,e_50.Sender,e_50.Kind,y_48,e_50.At,e_50.Until,e_50.Weight,e_50.Areas,e_50.Text⟩:Alert)))) 5 rfl (dK (by simp)) (dQ (v':=(gV n_6 9 (r_3.1.set (0+(r_16.1).toNat) (⟨e_50.Id,e_50.Sender,e_50.Kind,y_48,e_50.At,e_50.Until,e_50.Weight,e_50.Areas,e_50.Text⟩:Alert)))) 17 rfl (dK (by simp)) (dQ (v':=(gV n_6 9 (r_3.1.set (0+(r_16.1).toNat) (⟨e_50.Id,e_50.Sender,e_50.Kind,y_48,e_50.At,e_50.Until,e_50.Weight,e_50.Areas,e_50.Text⟩:Alert)))) 19 rfl (dK (by simp)) (af ?_))))
       obtain rfl:=ae h_14
       exact cu
      ·refine aA rfl hc_42 (ai (aa (vB (r_20.1==3)) (aa (vB (r_20.1==3)) (af ?_))))
       rcases aj h_14 with⟨hc_52,h_14⟩|⟨hc_52,h_14⟩
       ·refine aB rfl hc_52 (au (aa (.ref n_6 (0+(r_16.1).toNat) 0) (aa (.ref n_6 (0+(r_16.1).toNat) 0) (aa (.ref (av 0) 0 0) ?_))))
        obtain ⟨r_53,hr_54,h_14⟩:=bind_some h_14
        refine aV 0 [0] il ft (fM hr_54) rfl F5 rfl (by kernel_rfl) (by kernel_rfl) (by kernel_rfl) (by kernel_rfl) (by kernel_rfl) (by kernel_rfl) (by kernel_rfl) (by decide) (by kernel_rfl) wz (vI r_53.1) (by kernel_rfl) ([((av 0),some (.cells 2 [(vL eI r_53.2.L),(vI r_53.2.f_at)])),(n_6,gB 9 Alert.enc r_3.1)]:Hp) (by kernel_rfl) (aa (.ref (av 0) 0 0) ?_)
        obtain ⟨r_56,hr_57,h_14⟩:=bind_some h_14
        refine aV 0 [0] il ft (fM hr_57) rfl F5 rfl (by kernel_rfl) (by kernel_rfl) (by kernel_rfl) (by kernel_rfl) (by kernel_rfl) (by kernel_rfl) (by kernel_rfl) (by decide) (by kernel_rfl) wz (vI r_56.1) (by kernel_rfl) ([((av 0),some (.cells 2 [(vL eI r_56.2.L),(vI r_56.2.f_at)])),(n_6,gB 9 Alert.enc r_3.1)]:Hp) (by kernel_rfl) (aa (.ref n_6 (0+(r_16.1).toNat) 0) (aH iw rfl 4 rfl wz ?_))
        obtain ⟨e_59,hy_60,h_14⟩:=bind_some h_14
        refine l6 0 il ft 1 sz3 rfl rfl hy_60 (⟨e_59.Id,e_59.Sender,e_59.Kind,e_59.Refs,r_53.1,e_59.Until,e_59.Weight,e_59.Areas,e_59.Text⟩:Alert) rfl wz (dQ (v':=(gV n_6 9 (r_3.1.set (0+(r_16.1).toNat) (⟨e_59.Id,e_59.Sender,e_59.Kind,e_59.Refs,r_53.1,e_59.Until,e_59.Weight,e_59.Areas,e_59.Text⟩:Alert)))) 5 rfl (dK (by simp)) (dQ (v':=(gV n_6 9 (r_3.1.set (0+(r_16.1).toNat) (⟨e_59.Id,e_59.Sender,e_59.Kind,e_59.Refs,r_53.1,e_59.Until,e_59.Weight,e_59.Areas,e_59.Text⟩:Alert)))) 17 rfl (dK (by simp)) (dQ (v':=(gV n_6 9 (r_3.1.set (0+(r_16.1).toNat) (⟨e_59.Id,e_59.Sender,e_59.Kind,e_59.Refs,r_53.1,e_59.Until,e_59.Weight,e_59.Areas,e_59.Text⟩:Alert)))) 19 rfl (dK (by simp)) (aa (.ref n_6 (0+(r_16.1).toNat) 0) (aH xm rfl 5 rfl wz ?_)))))
        obtain ⟨e_61,hy_62,h_14⟩:=bind_some h_14
        refine l6 0 il ft 1 sz3 rfl rfl hy_62 (⟨e_61.Id,e_61.Sender,e_61.Kind,e_61.Refs,e_61.At,r_56.1,e_61.Weight,e_61.Areas,e_61.Text⟩:Alert) rfl wz (dQ (v':=(gV n_6 9 ((r_3.1.set (0+(r_16.1).toNat) (⟨e_59.Id,e_59.Sender,e_59.Kind,e_59.Refs,r_53.1,e_59.Until,e_59.Weight,e_59.Areas,e_59.Text⟩:Alert)).set (0+(r_16.1).toNat) (⟨e_61.Id,e_61.Sender,e_61.Kind,e_61.Refs,e_61.At,r_56.1,e_61.Weight,e_61.Areas,e_61.Text⟩:Alert)))) 5 rfl (dK (by simp)) (dQ (v':=(gV n_6 9 ((r_3.1.set (0+(r_16.1).toNat) (⟨e_59.Id,e_59.Sender,e_59.Kind,e_59.Refs,r_53.1,e_59.Until,e_59.Weight,e_59.Areas,e_59.Text⟩:Alert)).set (0+(r_16.1).toNat) (⟨e_61.Id,e_61.Sender,e_61.Kind,e_61.Refs,e_61.At,r_56.1,e_61.Weight,e_61.Areas,e_61.Text⟩:Alert)))) 17 rfl (dK (by simp)) (dQ (v':=(gV n_6 9 ((r_3.1.set (0+(r_16.1).toNat) (⟨e_59.Id,e_59.Sender,e_59.Kind,e_59.Refs,r_53.1,e_59.Until,e_59.Weight,e_59.Areas,e_59.Text⟩:Alert)).set (0+(r_16.1).toNat) (⟨e_61.Id,e_61.Sender,e_61.Kind,e_61.Refs,e_61.At,r_56.1,e_61.Weight,e_61.Areas,e_61.Text⟩:Alert)))) 19 rfl (dK (by simp)) (af ?_))))
        obtain rfl:=ae h_14
        exact cu
       ·refine aA rfl hc_52 (ai (aa (vB (r_20.1==4)) (aa (vB (r_20.1==4)) (af ?_))))
        rcases aj h_14 with⟨hc_63,h_14⟩|⟨hc_63,h_14⟩
        ·refine aB rfl hc_63 (au (aa (.ref n_6 (0+(r_16.1).toNat) 0) (aa (.ref n_6 (0+(r_16.1).toNat) 0) (aa (.ref (av 0) 0 0) ?_))))
         obtain ⟨r_64,hr_65,h_14⟩:=bind_some h_14
         refine aV 0 [0] il ft (vN hr_65) rfl hb24 rfl (by kernel_rfl) (by kernel_rfl) (by kernel_rfl) (by kernel_rfl) (by kernel_rfl) (by kernel_rfl) (by kernel_rfl) (by decide) (by kernel_rfl) wz (vL Rect.enc r_64.1) (by kernel_rfl) ([((av 0),some (.cells 2 [(vL eI r_64.2.L),(vI r_64.2.f_at)])),(n_6,gB 9 Alert.enc r_3.1)]:Hp) (by kernel_rfl) (aa (.ref (av 0) 0 0) ?_)
         obtain ⟨r_67,hr_68,h_14⟩:=bind_some h_14
         refine aV 0 [0] il ft (fM hr_68) rfl F5 rfl (by kernel_rfl) (by kernel_rfl) (by kernel_rfl) (by kernel_rfl) (by kernel_rfl) (by kernel_rfl) (by kernel_rfl) (by decide) (by kernel_rfl) wz (vI r_67.1) (by kernel_rfl) ([((av 0),some (.cells 2 [(vL eI r_67.2.L),(vI r_67.2.f_at)])),(n_6,gB 9 Alert.enc r_3.1)]:Hp) (by kernel_rfl) (aa (.ref n_6 (0+(r_16.1).toNat) 0) (aH qd rfl 7 rfl wz ?_))
         obtain ⟨e_70,hy_71,h_14⟩:=bind_some h_14
         refine l6 0 il ft 1 AR rfl rfl hy_71 (⟨e_70.Id,e_70.Sender,e_70.Kind,e_70.Refs,e_70.At,e_70.Until,e_70.Weight,r_64.1,e_70.Text⟩:Alert) rfl wz (dQ (v':=(gV n_6 9 (r_3.1.set (0+(r_16.1).toNat) (⟨e_70.Id,e_70.Sender,e_70.Kind,e_70.Refs,e_70.At,e_70.Until,e_70.Weight,r_64.1,e_70.Text⟩:Alert)))) 5 rfl (dK (by simp)) (dQ (v':=(gV n_6 9 (r_3.1.set (0+(r_16.1).toNat) (⟨e_70.Id,e_70.Sender,e_70.Kind,e_70.Refs,e_70.At,e_70.Until,e_70.Weight,r_64.1,e_70.Text⟩:Alert)))) 17 rfl (dK (by simp)) (dQ (v':=(gV n_6 9 (r_3.1.set (0+(r_16.1).toNat) (⟨e_70.Id,e_70.Sender,e_70.Kind,e_70.Refs,e_70.At,e_70.Until,e_70.Weight,r_64.1,e_70.Text⟩:Alert)))) 19 rfl (dK (by simp)) (aa (.ref n_6 (0+(r_16.1).toNat) 0) (aH FZ rfl 6 rfl wz ?_)))))
         obtain ⟨e_72,hy_73,h_14⟩:=bind_some h_14
         refine l6 0 il ft 1 sz3 rfl rfl hy_73 (⟨e_72.Id,e_72.Sender,e_72.Kind,e_72.Refs,e_72.At,e_72.Until,r_67.1,e_72.Areas,e_72.Text⟩:Alert) rfl wz (dQ (v':=(gV n_6 9 ((r_3.1.set (0+(r_16.1).toNat) (⟨e_70.Id,e_70.Sender,e_70.Kind,e_70.Refs,e_70.At,e_70.Until,e_70.Weight,r_64.1,e_70.Text⟩:Alert)).set (0+(r_16.1).toNat) (⟨e_72.Id,e_72.Sender,e_72.Kind,e_72.Refs,e_72.At,e_72.Until,r_67.1,e_72.Areas,e_72.Text⟩:Alert)))) 5 rfl (dK (by simp)) (dQ (v':=(gV n_6 9 ((r_3.1.set (0+(r_16.1).toNat) (⟨e_70.Id,e_70.Sender,e_70.Kind,e_70.Refs,e_70.At,e_70.Until,e_70.Weight,r_64.1,e_70.Text⟩:Alert)).set (0+(r_16.1).toNat) (⟨e_72.Id,e_72.Sender,e_72.Kind,e_72.Refs,e_72.At,e_72.Until,r_67.1,e_72.Areas,e_72.Text⟩:Alert)))) 17 rfl (dK (by simp)) (dQ (v':=(gV n_6 9 ((r_3.1.set (0+(r_16.1).toNat) (⟨e_70.Id,e_70.Sender,e_70.Kind,e_70.Refs,e_70.At,e_70.Until,e_70.Weight,r_64.1,e_70.Text⟩:Alert)).set (0+(r_16.1).toNat) (⟨e_72.Id,e_72.Sender,e_72.Kind,e_72.Refs,e_72.At,e_72.Until,r_67.1,e_72.Areas,e_72.Text⟩:Alert)))) 19 rfl (dK (by simp)) (af ?_))))
         obtain rfl:=ae h_14
         exact cu
        ·refine aA rfl hc_63 (au (aa (.ref n_6 (0+(r_16.1).toNat) 0) (aa (.ref (av 0) 0 0) (eO (([(⟨#[]⟩:ByteArray),(⟨#[32,120]⟩:ByteArray),(⟨#[97,32,32,98]⟩:ByteArray),(⟨#[10]⟩:ByteArray),(⟨#[255]⟩:ByteArray)]:List ByteArray).map eS) iL oM rfl rfl rfl rfl rfl wz ?_))))
         obtain ⟨r_74,hr_75,h_14⟩:=bind_some h_14
         refine aV 0 [0] il ft (fE hr_75) rfl hb5 rfl (by kernel_rfl) (by kernel_rfl) (by kernel_rfl) (by kernel_rfl) (by kernel_rfl) (by kernel_rfl) (by kernel_rfl) (by decide) (by kernel_rfl) wz (vS r_74.1) (by kernel_rfl) ([((av 0),some (.cells 2 [(vL eI r_74.2.L),(vI r_74.2.f_at)])),(n_6,gB 9 Alert.enc r_3.1)]:Hp) (by kernel_rfl) (aa (.ref n_6 (0+(r_16.1).toNat) 0) (aH sM rfl 8 rfl wz ?_))
         obtain ⟨e_77,hy_78,h_14⟩:=bind_some h_14
         refine l6 0 il ft 1 sz9 rfl rfl hy_78 (⟨e_77.Id,e_77.Sender,e_77.Kind,e_77.Refs,e_77.At,e_77.Until,e_77.Weight,e_77.Areas,r_74.1⟩:Alert) rfl wz (dQ (v':=(gV n_6 9 (r_3.1.set (0+(r_16.1).toNat) (⟨e_77.Id,e_77.Sender,e_77.Kind,e_77.Refs,e_77.At,e_77.Until,e_77.Weight,e_77.Areas,r_74.1⟩:Alert)))) 5 rfl (dK (by simp)) (dQ (v':=(gV n_6 9 (r_3.1.set (0+(r_16.1).toNat) (⟨e_77.Id,e_77.Sender,e_77.Kind,e_77.Refs,e_77.At,e_77.Until,e_77.Weight,e_77.Areas,r_74.1⟩:Alert)))) 17 rfl (dK (by simp)) (dQ (v':=(gV n_6 9 (r_3.1.set (0+(r_16.1).toNat) (⟨e_77.Id,e_77.Sender,e_77.Kind,e_77.Refs,e_77.At,e_77.Until,e_77.Weight,e_77.Areas,r_74.1⟩:Alert)))) 19 rfl (dK (by simp)) (af ?_))))
         obtain rfl:=ae h_14
         exact cu
   ·refine aA rfl hc_15 (ax ?_)
    obtain rfl:=ae h_14
    exact cu
  ·rintro ⟨⟩ _ sl_ H_ hp_ hq_
   refine aP _ hp_ hq_ (ai (aa (gV n_6 9 v_13.1) (aa (gV n_6 9 v_13.1) (af (kw 1 rfl (fe 4 1 rfl rfl (fe 5 1 rfl rfl (fe 98 1 rfl rfl ?_))))))))
   obtain rfl:=ae hF
   exact ay (qM (.inr rfl) [(vL Alert.enc v_13.1)] _ [0] [av 0] ⟨rfl,trivial⟩ (.cons (fB rfl rfl) (.nil)) (by kernel_rfl) ⟨(by kernel_rfl),trivial⟩ (by decide) (by kernel_rfl))
theorem oq {s_1:ByteArray} {r:Bool} (hF:kit_IsKey s_1=some r) :
  FnM Tryz.prog 70 [(vS s_1)] [] (vB r) []:=by
 refine FnM.of_wH ⟨Tryz.prog,48,[],[]⟩ rfl Tryz.func70 rfl rfl (lb_ rfl) (by kernel_rfl) ?_
 unfold kit_IsKey at hF
 refine ai (aa (vB false) (af (ak (ai (aa (vI 0) (af ?_))))))
 obtain ⟨o_10,hj_11,hF⟩:=bind_some hF
 obtain ⟨nq_33,hj_11⟩:=gD hj_11
 refine jF (λ(s_7:Int)=>[(0,(vS s_1))]) (λ(s_7:Int)=>[]) (λ(k_2:Nat)=>(λ(s_7:Int)=>[(0,(vS s_1)),(3,(vI s_7))])) (λs=>iJ s_1 s) o_10 nq_33 0 hj_11 rfl (aL rfl) ?_ ?_
 ·rintro ⟨k_2,s_7⟩ hL_9
  dsimp only at hL_9
  cases k_2 with
  | zero=>cases hL_9
  | succ k_2 =>
   obtain ⟨c_,hc_8,hL_9⟩:=bind_some hL_9
   unfold iJ at hc_8
   refine ak (ai (aa (vI s_7) (aa (vS s_1) (nX un9 rfl wz (aa (vB (decide (s_7<(s_1.size:Int)))) (af ?_))))))
   rcases aj hc_8 with⟨hc_12,hc_8⟩|⟨hc_12,hc_8⟩
   ·refine aB rfl hc_12 (ax (ak (aN (ai (aa (vS s_1) (aa (vI s_7) ?_))))))
    obtain ⟨b_13,hy_14,hc_8⟩:=bind_some hc_8
    refine qa un9 rfl rfl hy_14 wz (aa (.d (.int .u8 (b_13.toNat:Int))) (af (ak ?_)))
    obtain ⟨v_15,h_16,hc_8⟩:=bind_some hc_8
    refine aO [(0,(vS s_1)),(3,(vI s_7)),(40,(vB v_15))] [] ?_ ?_
    ·refine au (aa (.d (.int .u8 (b_13.toNat:Int))) (aa (vB (decide ((b_13.toNat:Int)>=97))) ?_))
     rcases aj h_16 with⟨hc_17,h_16⟩|⟨hc_17,h_16⟩
     ·refine aC rfl hc_17 wz (aI (.d (.int .u8 (b_13.toNat:Int))) wa rfl (aI (vB (decide ((b_13.toNat:Int)<=122))) wa rfl (aa (vB (decide ((b_13.toNat:Int)<=122))) ?_)))
      rcases aj h_16 with⟨hc_18,h_16⟩|⟨hc_18,h_16⟩
      ·refine aC rfl hc_18 wz (ah (ah (ah (eD (wn rfl rfl) (eD (wn rfl rfl) (eD (wn rfl rfl) (eD (wn rfl rfl) (eD (wn rfl rfl) (eD (wn rfl rfl) (eD (wn rfl rfl) (eD (wn rfl rfl) (eD (wn rfl rfl) (eD (wn rfl rfl) (eD (wn rfl rfl) (eD (wn rfl rfl) (eD (wn rfl rfl) (eD (wn rfl rfl) (ah (aa (vB true) (aa (vB false) (af ?_)))))))))))))))))))))
       obtain rfl:=ae h_16
       exact cu
      ·refine aC rfl hc_18 wz (aI (vI s_7) wa rfl (aI (vB (decide (s_7>0))) wa rfl ?_))
       rcases aj h_16 with⟨hc_19,h_16⟩|⟨hc_19,h_16⟩
       ·refine aC rfl hc_19 wa (aI (.d (.int .u8 (b_13.toNat:Int))) wa rfl (aI (vB (decide ((b_13.toNat:Int)>=48))) wa rfl ?_))
        rcases aj h_16 with⟨hc_20,h_16⟩|⟨hc_20,h_16⟩
        ·refine aC rfl hc_20 wa (aI (.d (.int .u8 (b_13.toNat:Int))) wa rfl (aI (vB (decide ((b_13.toNat:Int)<=57))) wa rfl (aI (vB (decide ((b_13.toNat:Int)<=57))) wa rfl ?_)))
         rcases aj h_16 with⟨hc_21,h_16⟩|⟨hc_21,h_16⟩
         ·refine aC rfl hc_21 wa (ah (ah (aI (vB true) wa rfl (aI (vB true) wa rfl (ah (ah (aI (vB true) wa rfl (aI (vB true) wa rfl (aa (vB true) (aa (vB false) (af ?_)))))))))))
          obtain rfl:=ae h_16
          exact cu
         ·refine aC rfl hc_21 wa (aI (.d (.int .u8 (b_13.toNat:Int))) wa rfl (aI (vB ((b_13.toNat:Int)==45)) wa rfl (aI (vB ((b_13.toNat:Int)==45)) wa rfl ?_)))
          rcases aj h_16 with⟨hc_22,h_16⟩|⟨hc_22,h_16⟩
          ·refine aC rfl hc_22 wa (ah (ah (aI (vB true) wa rfl (aI (vB true) wa rfl (aa (vB true) (aa (vB false) (af ?_)))))))
           obtain rfl:=ae h_16
           exact cu
          ·refine aC rfl hc_22 wa (aI (.d (.int .u8 (b_13.toNat:Int))) wa rfl (aI (vB ((b_13.toNat:Int)==95)) wa rfl (aI (vB ((b_13.toNat:Int)==95)) wa rfl (aI (vB ((b_13.toNat:Int)==95)) wa rfl (aa (vB ((b_13.toNat:Int)==95)) (aa (vB (!((b_13.toNat:Int)==95))) (af ?_)))))))
           obtain rfl:=ae h_16
           exact cu
        ·refine aC rfl hc_20 wa (ah (ah (aI (vB false) wa rfl (aI (vB false) wa rfl (aI (.d (.int .u8 (b_13.toNat:Int))) wa rfl (aI (vB ((b_13.toNat:Int)==45)) wa rfl (aI (vB ((b_13.toNat:Int)==45)) wa rfl ?_)))))))
         rcases aj h_16 with⟨hc_23,h_16⟩|⟨hc_23,h_16⟩
         ·refine aC rfl hc_23 wa (ah (ah (aI (vB true) wa rfl (aI (vB true) wa rfl (aa (vB true) (aa (vB false) (af ?_)))))))
          obtain rfl:=ae h_16
          exact cu
         ·refine aC rfl hc_23 wa (aI (.d (.int .u8 (b_13.toNat:Int))) wa rfl (aI (vB ((b_13.toNat:Int)==95)) wa rfl (aI (vB ((b_13.toNat:Int)==95)) wa rfl (aI (vB ((b_13.toNat:Int)==95)) wa rfl (aa (vB ((b_13.toNat:Int)==95)) (aa (vB (!((b_13.toNat:Int)==95))) (af ?_)))))))
          obtain rfl:=ae h_16
          exact cu
       ·refine aC rfl hc_19 wa (ah (ah (ah (eD (wn rfl rfl) (eD (wn rfl rfl) (ah (ah (eD (wn rfl rfl) (eD (wn rfl rfl) (ah (ah (eD (wn rfl rfl) (eD (wn rfl rfl) (ah (aI (vB false) wa rfl (aa (vB false) (aa (vB true) (af ?_))))))))))))))))))
        obtain rfl:=ae h_16
        exact cu
     ·refine aC rfl hc_17 wz (ah (ah (aa (vB false) (aa (vB false) (aI (vI s_7) wa rfl (aI (vB (decide (s_7>0))) wa rfl ?_))))))
      rcases aj h_16 with⟨hc_24,h_16⟩|⟨hc_24,h_16⟩
      ·refine aC rfl hc_24 wa (aI (.d (.int .u8 (b_13.toNat:Int))) wa rfl (aI (vB (decide ((b_13.toNat:Int)>=48))) wa rfl ?_))
       rcases aj h_16 with⟨hc_25,h_16⟩|⟨hc_25,h_16⟩
       ·refine aC rfl hc_25 wa (aI (.d (.int .u8 (b_13.toNat:Int))) wa rfl (aI (vB (decide ((b_13.toNat:Int)<=57))) wa rfl (aI (vB (decide ((b_13.toNat:Int)<=57))) wa rfl ?_)))
        rcases aj h_16 with⟨hc_26,h_16⟩|⟨hc_26,h_16⟩
        ·refine aC rfl hc_26 wa (ah (ah (aI (vB true) wa rfl (aI (vB true) wa rfl (ah (ah (aI (vB true) wa rfl (aI (vB true) wa rfl (aa (vB true) (aa (vB false) (af ?_)))))))))))
         obtain rfl:=ae h_16
         exact cu
        ·refine aC rfl hc_26 wa (aI (.d (.int .u8 (b_13.toNat:Int))) wa rfl (aI (vB ((b_13.toNat:Int)==45)) wa rfl (aI (vB ((b_13.toNat:Int)==45)) wa rfl ?_)))
         rcases aj h_16 with⟨hc_27,h_16⟩|⟨hc_27,h_16⟩
         ·refine aC rfl hc_27 wa (ah (ah (aI (vB true) wa rfl (aI (vB true) wa rfl (aa (vB true) (aa (vB false) (af ?_)))))))
          obtain rfl:=ae h_16
          exact cu
         ·refine aC rfl hc_27 wa (aI (.d (.int .u8 (b_13.toNat:Int))) wa rfl (aI (vB ((b_13.toNat:Int)==95)) wa rfl (aI (vB ((b_13.toNat:Int)==95)) wa rfl (aI (vB ((b_13.toNat:Int)==95)) wa rfl (aa (vB ((b_13.toNat:Int)==95)) (aa (vB (!((b_13.toNat:Int)==95))) (af ?_)))))))
          obtain rfl:=ae h_16
          exact cu
       ·refine aC rfl hc_25 wa (ah (ah (aI (vB false) wa rfl (aI (vB false) wa rfl (aI (.d (.int .u8 (b_13.toNat:Int))) wa rfl (aI (vB ((b_13.toNat:Int)==45)) wa rfl (aI (vB ((b_13.toNat:Int)==45)) wa rfl ?_)))))))
        rcases aj h_16 with⟨hc_28,h_16⟩|⟨hc_28,h_16⟩
        ·refine aC rfl hc_28 wa (ah (ah (aI (vB true) wa rfl (aI (vB true) wa rfl (aa (vB true) (aa (vB false) (af ?_)))))))
         obtain rfl:=ae h_16
         exact cu
        ·refine aC rfl hc_28 wa (aI (.d (.int .u8 (b_13.toNat:Int))) wa rfl (aI (vB ((b_13.toNat:Int)==95)) wa rfl (aI (vB ((b_13.toNat:Int)==95)) wa rfl (aI (vB ((b_13.toNat:Int)==95)) wa rfl (aa (vB ((b_13.toNat:Int)==95)) (aa (vB (!((b_13.toNat:Int)==95))) (af ?_)))))))
         obtain rfl:=ae h_16
         exact cu
      ·refine aC rfl hc_24 wa (ah (ah (ah (eD (wn rfl rfl) (eD (wn rfl rfl) (ah (ah (eD (wn rfl rfl) (eD (wn rfl rfl) (ah (ah (eD (wn rfl rfl) (eD (wn rfl rfl) (ah (aI (vB false) wa rfl (aa (vB false) (aa (vB true) (af ?_))))))))))))))))))
       obtain rfl:=ae h_16
       exact cu
    ·rintro ⟨⟩ _ sl_ H_ hp_ hq_
     refine aP _ hp_ hq_ ?_
     rcases aj hc_8 with⟨hc_29,hc_8⟩|⟨hc_29,hc_8⟩
     ·refine aB rfl hc_29 (ai (aa (vB false) (af ?_)))
      obtain rfl:=ae hc_8
      obtain rfl:=ae hL_9
      obtain rfl:=ae hF
      exact ay (aM [(vB false)] ⟨rfl,trivial⟩)
     ·refine aA rfl hc_29 (ax (au (aa (vI s_7) (aa (vI (w64 (s_7+1))) (aa (vI (w64 (s_7+1))) (af ?_))))))
      obtain rfl:=ae hc_8
      exact bg (k_2,(w64 (s_7+1))) hL_9 (ls_ _) rfl (aL rfl)
   ·refine aA rfl hc_12 (bn ?_)
    obtain rfl:=ae hc_8
    obtain rfl:=ae hL_9
    exact aW (s_7) rfl rfl (aL rfl)
 ·rintro s_7 ho_ sl_ H_ hp_ hq_
  subst ho_
  refine aP _ hp_ hq_ (ak ?_)
  obtain ⟨v_30,h_31,hF⟩:=bind_some hF
  refine aO [(2,(vB v_30))] [] ?_ ?_
  ·refine au (aa (vS s_1) (aa (vB (sNe s_1 (⟨#[]⟩:ByteArray))) ?_))
   rcases aj h_31 with⟨hc_32,h_31⟩|⟨hc_32,h_31⟩
   ·refine aC rfl hc_32 wz (aI (vS s_1) wa rfl (nX un9 rfl wa (aI (vB (decide ((s_1.size:Int)<=40))) wa rfl (aa (vB (decide ((s_1.size:Int)<=40))) (aa (vB (decide ((s_1.size:Int)<=40))) (af ?_))))))
    obtain rfl:=ae h_31
    exact cu
   ·refine aC rfl hc_32 wz (ah (ah (ah (aa (vB false) (aa (vB false) (af ?_))))))
    obtain rfl:=ae h_31
    exact cu
  ·rintro ⟨⟩ _ sl_ H_ hp_ hq_
   refine aP _ hp_ hq_ ?_
   obtain rfl:=ae hF
   exact ay (aM [(vB v_30)] ⟨rfl,trivial⟩)
theorem fC {n_1:Int} {low_2:Int} {high_3:Int} {r:Bool} (hF:bZ n_1 low_2 high_3=some r) :
  FnM Tryz.prog 71 [(vI n_1),(vI low_2),(vI high_3)] [] (vB r) []:=by
 refine FnM.of_wH ⟨Tryz.prog,15,[],[]⟩ rfl Tryz.func71 rfl rfl (lb_ rfl) (by kernel_rfl) ?_
 unfold bZ at hF
 refine ai (aa (vB false) (af (ak ?_)))
 obtain ⟨v_4,h_5,hF⟩:=bind_some hF
 refine aO [(6,(vB v_4))] [] ?_ ?_
 ·refine au (aa (vI n_1) (aa (vI low_2) (aa (vB (decide (n_1<low_2))) ?_)))
  rcases aj h_5 with⟨hc_6,h_5⟩|⟨hc_6,h_5⟩
  ·refine aC rfl hc_6 wz (ah (ah (ah (aa (vB true) (aa (vB true) (af ?_))))))
   obtain rfl:=ae h_5
   exact cu
  ·refine aC rfl hc_6 wz (aI (vI n_1) wa rfl (aI (vI high_3) wa rfl (aI (vB (decide (n_1>high_3))) wa rfl (aa (vB (decide (n_1>high_3))) (aa (vB (decide (n_1>high_3))) (af ?_))))))
   obtain rfl:=ae h_5
   exact cu
 ·rintro ⟨⟩ _ sl_ H_ hp_ hq_
  refine aP _ hp_ hq_ ?_
  obtain rfl:=ae hF
  exact ay (aM [(vB v_4)] ⟨rfl,trivial⟩)
theorem vw {a_1:Alert} {r:Int} (hF:gG a_1=some r) :
  FnM Tryz.prog 72 [(.d (.agg (Alert.enc a_1)))] [] (vI r) []:=by
 refine FnM.of_wH ⟨Tryz.prog,48,[],[]⟩ rfl Tryz.func72 rfl rfl (lb_ rfl) (by kernel_rfl) ?_
 unfold gG at hF
 refine ai (gP 0 (.inl rfl) (Alert.v a_1) rfl rfl wz (λn_2=>aa (vI 0) (af (ak (ai (aH jl rfl 3 rfl wz (aG 0 0 il ft qG tK rfl rfl (vL eS a_1.Refs) rfl wz (dB pG rfl wz (aa (vB (decide ((a_1.Refs.length:Int)>20))) (af ?_))))))))))
 rcases aj hF with⟨hc_3,hF⟩|⟨hc_3,hF⟩
 ·refine aB rfl hc_3 (ai (aa (vI 2) (af ?_)))
  obtain rfl:=ae hF
  exact ay (aM [(vI 2)] ⟨rfl,trivial⟩)
 ·refine aA rfl hc_3 (ax (ak (ai (aH jl rfl 3 rfl wz (aG 0 0 il ft qG tK rfl rfl (vL eS a_1.Refs) rfl wz (dB pG rfl wz (aa (vI 0) (af ?_))))))))
  obtain ⟨o_12,hj_13,hF⟩:=bind_some hF
  obtain ⟨hn_8,hj_13⟩:=aZ hj_13
  refine dF (λ(s_9:Unit)=>[(1,(.ref n_2 0 0))]) (λ(s_9:Unit)=>[(n_2,some (.cells 9 (Alert.v a_1)))]) (λ(k_4:Nat)=>(λ(s_9:Unit)=>[(1,(.ref n_2 0 0)),(10,(vL eS a_1.Refs)),(11,(vI (a_1.Refs.length:Int))),(12,(vI (k_4:Int)))])) (λk x s=>dM a_1 k x s) o_12 a_1.Refs () hj_13 rfl (aL rfl) ?_ ?_
  ·rintro ⟨k_4,l_5,s_9⟩ ⟨hL_11,hD_7⟩
   dsimp only at hL_11 hD_7
   cases l_5 with
   | nil =>
    obtain rfl:=ae hL_11
    refine ai (aa (vB (decide ((k_4:Int)<(a_1.Refs.length:Int)))) (af ?_))
    refine ak (aA rfl (drop_nil hD_7) (bn ?_))
    exact aW (s_9) rfl rfl (aL rfl)
   | cons x_6 l_5 =>
    obtain ⟨c_,hc_10,hL_11⟩:=bind_some hL_11
    refine ai (aa (vB (decide ((k_4:Int)<(a_1.Refs.length:Int)))) (af ?_))
    refine ak (aB rfl (bC hD_7) (ax ?_))
    unfold dM at hc_10
    refine ak (aN (ai (aa (vI (k_4:Int)) (iV iL rfl rfl (bT hD_7) rfl wz (eP sz9 ag9 rfl (vS x_6) rfl wz (aa (vI (k_4:Int)) (aa (vS x_6) (af (aN (ai (aa (vS x_6) ?_)))))))))))
    obtain ⟨r_14,hr_15,hc_10⟩:=bind_some hc_10
    refine aF (oq hr_15) rfl hb70 rfl rfl rfl rfl wz (aa (vB (!r_14)) (aa (vB (!r_14)) (af ?_)))
    rcases aj hc_10 with⟨hc_16,hc_10⟩|⟨hc_16,hc_10⟩
    ·refine aB rfl hc_16 (ai (aa (vI 5) (af ?_)))
     obtain rfl:=ae hc_10
     obtain rfl:=ae hL_11
     obtain rfl:=ae hF
     exact ay (aM [(vI 5)] ⟨rfl,trivial⟩)
    ·refine aA rfl hc_16 (ak ?_)
     obtain ⟨v_17,h_18,hc_10⟩:=bind_some hc_10
     refine aO [(1,(.ref n_2 0 0)),(4,(vS x_6)),(10,(vL eS a_1.Refs)),(11,(vI (a_1.Refs.length:Int))),(12,(vI (k_4:Int))),(21,(vB v_17))] [(n_2,some (.cells 9 (Alert.v a_1)))] ?_ ?_
     ·refine au (aa (vI (k_4:Int)) (aa (vB (decide ((k_4:Int)>0))) ?_))
      rcases aj h_18 with⟨hc_19,h_18⟩|⟨hc_19,h_18⟩
      ·refine aC rfl hc_19 wz (aI (vS x_6) wa rfl (aH jl rfl 3 rfl wa (aG 0 0 il ft qG tK rfl rfl (vL eS a_1.Refs) rfl wa (aI (vI (k_4:Int)) wa rfl (aI (vI (w64 ((k_4:Int)-1))) wa rfl ?_)))))
       obtain ⟨y_20,hy_21,h_18⟩:=bind_some h_18
       refine iV iL rfl rfl hy_21 rfl wa (eP sz9 ag9 rfl (vS y_20) rfl wa (aI (vB (sLe x_6 y_20)) wa rfl (aa (vB (sLe x_6 y_20)) (aa (vB (sLe x_6 y_20)) (af ?_)))))
       obtain rfl:=ae h_18
       exact cu
      ·refine aC rfl hc_19 wz (ah (ah (ah (ah (ah (ah (ah (ah (aa (vB false) (aa (vB false) (af ?_)))))))))))
       obtain rfl:=ae h_18
       exact cu
     ·rintro ⟨⟩ _ sl_ H_ hp_ hq_
      refine aP _ hp_ hq_ ?_
      rcases aj hc_10 with⟨hc_22,hc_10⟩|⟨hc_22,hc_10⟩
      ·refine aB rfl hc_22 (ai (aa (vI 7) (af ?_)))
       obtain rfl:=ae hc_10
       obtain rfl:=ae hL_11
       obtain rfl:=ae hF
       exact ay (aM [(vI 7)] ⟨rfl,trivial⟩)
      ·refine aA rfl hc_22 (ai (aa (vS x_6) (aH fw rfl 0 rfl wz (aG 0 0 il ft sz9 ag9 rfl rfl (vS a_1.Id) rfl wz (aa (vB (sEq x_6 a_1.Id)) (aa (vB (sEq x_6 a_1.Id)) (af ?_)))))))
       rcases aj hc_10 with⟨hc_23,hc_10⟩|⟨hc_23,hc_10⟩
       ·refine aB rfl hc_23 (ai (aa (vI 14) (af ?_)))
        obtain rfl:=ae hc_10
        obtain rfl:=ae hL_11
        obtain rfl:=ae hF
        exact ay (aM [(vI 14)] ⟨rfl,trivial⟩)
       ·refine aA rfl hc_23 (ax (au (fQ (bL hD_7 hn_8) wz rfl (aa (vI ((k_4+1:Nat):Int)) (af ?_)))))
        obtain rfl:=ae hc_10
        exact bg (k_4+1,l_5,()) ⟨hL_11,aS hD_7⟩ (ls_ _) rfl (aL rfl)
  ·rintro s_9 ho_ sl_ H_ hp_ hq_
   subst ho_
   refine aP _ hp_ hq_ (ak (ai (aH nQ rfl 2 rfl wz (aG 0 0 il ft sz3 ag3 rfl rfl (vI a_1.Kind) rfl wz (aa (vB (a_1.Kind==1)) (aH jl rfl 3 rfl wz (aG 0 0 il ft qG tK rfl rfl (vL eS a_1.Refs) rfl wz (dB pG rfl wz (aa (vB ((a_1.Refs.length:Int)==0)) (Cz un4 rfl rfl wz (af ?_)))))))))))
   rcases aj hF with⟨hc_24,hF⟩|⟨hc_24,hF⟩
   ·refine aB rfl hc_24 (ai (aa (vI 3) (af ?_)))
    obtain rfl:=ae hF
    exact ay (aM [(vI 3)] ⟨rfl,trivial⟩)
   ·refine aA rfl hc_24 (ax (ai (aa (vI 0) (af ?_))))
    obtain rfl:=ae hF
    exact ay (aM [(vI 0)] ⟨rfl,trivial⟩)
theorem sF {n_1:Int} {r:Bool} (hF:jo n_1=some r) :
  FnM Tryz.prog 57 [(vI n_1)] [] (vB r) []:=by
 refine FnM.of_wH ⟨Tryz.prog,9,[],[]⟩ rfl Tryz.func57 rfl rfl (lb_ rfl) (by kernel_rfl) ?_
 unfold jo at hF
 refine ai (aa (vB false) (af (ak ?_)))
 obtain ⟨v_2,h_3,hF⟩:=bind_some hF
 refine aO [(2,(vB v_2))] [] ?_ ?_
 ·refine au (aa (vI n_1) (aa (vB (decide (n_1>=0))) ?_))
  rcases aj h_3 with⟨hc_4,h_3⟩|⟨hc_4,h_3⟩
  ·refine aC rfl hc_4 wz (aI (vI n_1) wa rfl (aI (vB (decide (n_1<345686400000))) wa rfl (aa (vB (decide (n_1<345686400000))) (aa (vB (decide (n_1<345686400000))) (af ?_)))))
   obtain rfl:=ae h_3
   exact cu
  ·refine aC rfl hc_4 wz (ah (ah (aa (vB false) (aa (vB false) (af ?_)))))
   obtain rfl:=ae h_3
   exact cu
 ·rintro ⟨⟩ _ sl_ H_ hp_ hq_
  refine aP _ hp_ hq_ ?_
  obtain rfl:=ae hF
  exact ay (aM [(vB v_2)] ⟨rfl,trivial⟩)
theorem uI {r_1:Rect} {r:Int} (hF:jc r_1=some r) :
  FnM Tryz.prog 73 [(.d (.agg (Rect.enc r_1)))] [] (vI r) []:=by
 refine FnM.of_wH ⟨Tryz.prog,25,[],[]⟩ rfl Tryz.func73 rfl rfl (lb_ rfl) (by kernel_rfl) ?_
 unfold jc at hF
 refine ai (gP 0 (.inl rfl) (Rect.v r_1) rfl rfl wz (λn_2=>aa (vI 0) (af (ak (ak ?_)))))
 obtain ⟨v_3,h_4,hF⟩:=bind_some hF
 refine aO [(1,(.ref n_2 0 0)),(10,(vB v_3))] [(n_2,some (.cells 4 (Rect.v r_1)))] ?_ ?_
 ·refine au (aH uX rfl 0 rfl wz (aG 0 0 il ft sz3 ag3 rfl rfl (vI r_1.X) rfl wz ?_))
  obtain ⟨r_5,hr_6,h_4⟩:=bind_some h_4
  refine aF (fC hr_6) rfl Co rfl rfl rfl rfl wz ?_
  rcases aj h_4 with⟨hc_7,h_4⟩|⟨hc_7,h_4⟩
  ·refine aC rfl hc_7 wz (ah (ah (ah (aa (vB true) (af ?_)))))
   obtain rfl:=ae h_4
   exact cu
  ·refine aC rfl hc_7 wz (aH ve rfl 1 rfl wa (aG 0 0 il ft sz3 ag3 rfl rfl (vI r_1.Y) rfl wa ?_))
   obtain ⟨r_8,hr_9,h_4⟩:=bind_some h_4
   refine aF (fC hr_9) rfl Co rfl rfl rfl rfl wa (aa (vB r_8) (af ?_))
   obtain rfl:=ae h_4
   exact cu
 ·rintro ⟨⟩ _ sl_ H_ hp_ hq_
  refine aP _ hp_ hq_ ?_
  rcases aj hF with⟨hc_10,hF⟩|⟨hc_10,hF⟩
  ·refine aB rfl hc_10 (ai (aa (vI 1) (af ?_)))
   obtain rfl:=ae hF
   exact ay (aM [(vI 1)] ⟨rfl,trivial⟩)
  ·refine aA rfl hc_10 (ax (ak (ak ?_)))
   obtain ⟨v_11,h_12,hF⟩:=bind_some hF
   refine aO [(24,(vB v_11))] [(n_2,some (.cells 4 (Rect.v r_1)))] ?_ ?_
   ·refine au (aH CK rfl 2 rfl wz (aG 0 0 il ft sz3 ag3 rfl rfl (vI r_1.W) rfl wz (aH uX rfl 0 rfl wz (aG 0 0 il ft sz3 ag3 rfl rfl (vI r_1.X) rfl wz (aa (vI (w64 (100000-r_1.X))) ?_)))))
    obtain ⟨r_13,hr_14,h_12⟩:=bind_some h_12
    refine aF (fC hr_14) rfl Co rfl rfl rfl rfl wz ?_
    rcases aj h_12 with⟨hc_15,h_12⟩|⟨hc_15,h_12⟩
    ·refine aC rfl hc_15 wz (ah (ah (ah (ah (ah (ah (aa (vB true) (af ?_))))))))
     obtain rfl:=ae h_12
     exact cu
    ·refine aC rfl hc_15 wz (aH AC rfl 3 rfl wa (aG 0 0 il ft sz3 ag3 rfl rfl (vI r_1.H) rfl wa (aH ve rfl 1 rfl wa (aG 0 0 il ft sz3 ag3 rfl rfl (vI r_1.Y) rfl wa (aI (vI (w64 (100000-r_1.Y))) wa rfl ?_)))))
     obtain ⟨r_16,hr_17,h_12⟩:=bind_some h_12
     refine aF (fC hr_17) rfl Co rfl rfl rfl rfl wa (aa (vB r_16) (af ?_))
     obtain rfl:=ae h_12
     exact cu
   ·rintro ⟨⟩ _ sl_ H_ hp_ hq_
    refine aP _ hp_ hq_ ?_
    rcases aj hF with⟨hc_18,hF⟩|⟨hc_18,hF⟩
    ·refine aB rfl hc_18 (ai (aa (vI 1) (af ?_)))
     obtain rfl:=ae hF
     exact ay (aM [(vI 1)] ⟨rfl,trivial⟩)
    ·refine aA rfl hc_18 (ax (ai (aa (vI 0) (af ?_))))
     obtain rfl:=ae hF
     exact ay (aM [(vI 0)] ⟨rfl,trivial⟩)
theorem jQ {x0:ByteArray} {r:Bool} (hF:eF x0=some r) :
  FnM Tryz.prog 89 [(vS x0)] [] (vB r) [] :=
 Jy rfl Tryz.utf8_ValidString Jm hF
theorem qf {s_1:ByteArray} {c_2:Int} {r:ByteArray} (hF:strings_trimRightByte s_1 c_2=some r) :
  FnM Tryz.prog 117 [(vS s_1),(.d (.int .u8 c_2))] [] (vS r) []:=by
 refine FnM.of_wH ⟨Tryz.prog,23,[],[]⟩ rfl Tryz.func117 rfl rfl (lb_ rfl) (by kernel_rfl) ?_
 unfold strings_trimRightByte at hF
 refine ai (aa (vS (⟨#[]⟩:ByteArray)) (af (ak ?_)))
 obtain ⟨o_11,hj_12,hF⟩:=bind_some hF
 obtain ⟨nq_21,hj_12⟩:=gD hj_12
 refine jF (λ(s_8:ByteArray)=>[(0,(vS s_8))]) (λ(s_8:ByteArray)=>[]) (λ(k_3:Nat)=>(λ(s_8:ByteArray)=>[(0,(vS s_8)),(1,(.d (.int .u8 c_2)))])) (λs=>fT c_2 s) o_11 nq_21 s_1 hj_12 rfl (aL rfl) ?_ ?_
 ·rintro ⟨k_3,s_8⟩ hL_10
  dsimp only at hL_10
  cases k_3 with
  | zero=>cases hL_10
  | succ k_3 =>
   obtain ⟨c_,hc_9,hL_10⟩:=bind_some hL_10
   unfold fT at hc_9
   refine ak (ak ?_)
   obtain ⟨v_13,h_14,hc_9⟩:=bind_some hc_9
   refine aO [(0,(vS s_8)),(1,(.d (.int .u8 c_2))),(16,(vB v_13))] [] ?_ ?_
   ·refine au (aa (vS s_8) (nX un9 rfl wz (aa (vB (decide ((s_8.size:Int)>0))) ?_)))
    rcases aj h_14 with⟨hc_15,h_14⟩|⟨hc_15,h_14⟩
    ·refine aC rfl hc_15 wz (aI (vS s_8) wa rfl (aI (vS s_8) wa rfl (nX un9 rfl wa (aI (vI (w64 ((s_8.size:Int)-1))) wa rfl ?_))))
     obtain ⟨b_16,hy_17,h_14⟩:=bind_some h_14
     refine qa un9 rfl rfl hy_17 wa (aI (.d (.int .u8 c_2)) wa rfl (aI (vB ((b_16.toNat:Int)==c_2)) wa rfl (aa (vB ((b_16.toNat:Int)==c_2)) (af ?_))))
     obtain rfl:=ae h_14
     exact cu
    ·refine aC rfl hc_15 wz (ah (ah (ah (ah (ah (ah (ah (aa (vB false) (af ?_)))))))))
     obtain rfl:=ae h_14
     exact cu
   ·rintro ⟨⟩ _ sl_ H_ hp_ hq_
    refine aP _ hp_ hq_ ?_
    rcases aj hc_9 with⟨hc_18,hc_9⟩|⟨hc_18,hc_9⟩
    ·refine aB rfl hc_18 (ax (aN (au (aa (vS s_8) (aa (vS s_8) (nX un9 rfl wz (aa (vI (w64 ((s_8.size:Int)-1))) ?_)))))))
     obtain ⟨y_19,hy_20,hc_9⟩:=bind_some hc_9
     refine tL un9 rfl rfl hy_20 wz (aa (vS y_19) (af ?_))
     obtain rfl:=ae hc_9
     exact bg (k_3,y_19) hL_10 (ls_ _) rfl (aL rfl)
    ·refine aA rfl hc_18 (bn ?_)
     obtain rfl:=ae hc_9
     obtain rfl:=ae hL_10
     exact aW (s_8) rfl rfl (aL rfl)
 ·rintro s_8 ho_ sl_ H_ hp_ hq_
  subst ho_
  refine aP _ hp_ hq_ (ai (aa (vS s_8) (aa (vS s_8) (af ?_))))
  obtain rfl:=ae hF
  exact ay (aM [(vS s_8)] ⟨rfl,trivial⟩)
theorem qQ {s_1:ByteArray} {c_2:Int} {r:ByteArray} (hF:strings_trimLeftByte s_1 c_2=some r) :
  FnM Tryz.prog 116 [(vS s_1),(.d (.int .u8 c_2))] [] (vS r) []:=by
 refine FnM.of_wH ⟨Tryz.prog,17,[],[]⟩ rfl Tryz.func116 rfl rfl (lb_ rfl) (by kernel_rfl) ?_
 unfold strings_trimLeftByte at hF
 refine ai (aa (vS (⟨#[]⟩:ByteArray)) (af (ak ?_)))
 obtain ⟨o_11,hj_12,hF⟩:=bind_some hF
 obtain ⟨nq_21,hj_12⟩:=gD hj_12
 refine jF (λ(s_8:ByteArray)=>[(0,(vS s_8))]) (λ(s_8:ByteArray)=>[]) (λ(k_3:Nat)=>(λ(s_8:ByteArray)=>[(0,(vS s_8)),(1,(.d (.int .u8 c_2)))])) (λs=>gy c_2 s) o_11 nq_21 s_1 hj_12 rfl (aL rfl) ?_ ?_
 ·rintro ⟨k_3,s_8⟩ hL_10
  dsimp only at hL_10
  cases k_3 with
  | zero=>cases hL_10
  | succ k_3 =>
   obtain ⟨c_,hc_9,hL_10⟩:=bind_some hL_10
   unfold gy at hc_9
   refine ak (ak ?_)
   obtain ⟨v_13,h_14,hc_9⟩:=bind_some hc_9
   refine aO [(0,(vS s_8)),(1,(.d (.int .u8 c_2))),(13,(vB v_13))] [] ?_ ?_
   ·refine au (aa (vS s_8) (nX un9 rfl wz (aa (vB (decide ((s_8.size:Int)>0))) ?_)))
    rcases aj h_14 with⟨hc_15,h_14⟩|⟨hc_15,h_14⟩
    ·refine aC rfl hc_15 wz (aI (vS s_8) wa rfl ?_)
     obtain ⟨b_16,hy_17,h_14⟩:=bind_some h_14
     refine qa un9 rfl rfl hy_17 wa (aI (.d (.int .u8 c_2)) wa rfl (aI (vB ((b_16.toNat:Int)==c_2)) wa rfl (aa (vB ((b_16.toNat:Int)==c_2)) (af ?_))))
     obtain rfl:=ae h_14
     exact cu
    ·refine aC rfl hc_15 wz (ah (ah (ah (ah (aa (vB false) (af ?_))))))
     obtain rfl:=ae h_14
     exact cu
   ·rintro ⟨⟩ _ sl_ H_ hp_ hq_
    refine aP _ hp_ hq_ ?_
    rcases aj hc_9 with⟨hc_18,hc_9⟩|⟨hc_18,hc_9⟩
    ·refine aB rfl hc_18 (ax (aN (au (aa (vS s_8) ?_))))
     obtain ⟨y_19,hy_20,hc_9⟩:=bind_some hc_9
     refine Ap un9 rfl rfl hy_20 wz (aa (vS y_19) (af ?_))
     obtain rfl:=ae hc_9
     exact bg (k_3,y_19) hL_10 (ls_ _) rfl (aL rfl)
    ·refine aA rfl hc_18 (bn ?_)
     obtain rfl:=ae hc_9
     obtain rfl:=ae hL_10
     exact aW (s_8) rfl rfl (aL rfl)
 ·rintro s_8 ho_ sl_ H_ hp_ hq_
  subst ho_
  refine aP _ hp_ hq_ (ai (aa (vS s_8) (aa (vS s_8) (af ?_))))
  obtain rfl:=ae hF
  exact ay (aM [(vS s_8)] ⟨rfl,trivial⟩)
theorem sG {s_1:ByteArray} {cutset_2:ByteArray} {r:ByteArray} (hF:kL s_1 cutset_2=some r) :
  FnM Tryz.prog 92 [(vS s_1),(vS cutset_2)] [] (vS r) []:=by
 refine FnM.of_wH ⟨Tryz.prog,43,[],[]⟩ rfl Tryz.func92 rfl rfl (lb_ rfl) (by kernel_rfl) ?_
 unfold kL at hF
 refine ai (aa (vS (⟨#[]⟩:ByteArray)) (af (ak (ak ?_))))
 obtain ⟨v_3,h_4,hF⟩:=bind_some hF
 refine aO [(0,(vS s_1)),(1,(vS cutset_2)),(12,(vB v_3))] [] ?_ ?_
 ·refine au (aa (vS s_1) (aa (vB (sEq s_1 (⟨#[]⟩:ByteArray))) ?_))
  rcases aj h_4 with⟨hc_5,h_4⟩|⟨hc_5,h_4⟩
  ·refine aC rfl hc_5 wz (ah (ah (aa (vB true) (af ?_))))
   obtain rfl:=ae h_4
   exact cu
  ·refine aC rfl hc_5 wz (aI (vS cutset_2) wa rfl (aI (vB (sEq cutset_2 (⟨#[]⟩:ByteArray))) wa rfl (aa (vB (sEq cutset_2 (⟨#[]⟩:ByteArray))) (af ?_))))
   obtain rfl:=ae h_4
   exact cu
 ·rintro ⟨⟩ _ sl_ H_ hp_ hq_
  refine aP _ hp_ hq_ ?_
  rcases aj hF with⟨hc_6,hF⟩|⟨hc_6,hF⟩
  ·refine aB rfl hc_6 (ai (aa (vS s_1) (aa (vS s_1) (af ?_))))
   obtain rfl:=ae hF
   exact ay (aM [(vS s_1)] ⟨rfl,trivial⟩)
  ·refine aA rfl hc_6 (ax (ak (ak ?_)))
   obtain ⟨v_7,h_8,hF⟩:=bind_some hF
   refine aO [(0,(vS s_1)),(1,(vS cutset_2)),(21,(vB v_7))] [] ?_ ?_
   ·refine au (aa (vS cutset_2) (nX un9 rfl wz (aa (vB ((cutset_2.size:Int)==1)) ?_)))
    rcases aj h_8 with⟨hc_9,h_8⟩|⟨hc_9,h_8⟩
    ·refine aC rfl hc_9 wz (aI (vS cutset_2) wa rfl ?_)
     obtain ⟨b_10,hy_11,h_8⟩:=bind_some h_8
     refine qa un9 rfl rfl hy_11 wa (aI (vB (decide ((b_10.toNat:Int)<128))) wa rfl (aa (vB (decide ((b_10.toNat:Int)<128))) (af ?_)))
     obtain rfl:=ae h_8
     exact cu
    ·refine aC rfl hc_9 wz (ah (ah (ah (aa (vB false) (af ?_)))))
     obtain rfl:=ae h_8
     exact cu
   ·rintro ⟨⟩ _ sl_ H_ hp_ hq_
    refine aP _ hp_ hq_ ?_
    rcases aj hF with⟨hc_12,hF⟩|⟨hc_12,hF⟩
    ·refine aB rfl hc_12 (ak (fG (aa (vS s_1) (aa (vS cutset_2) ?_))))
     obtain ⟨b_13,hy_14,hF⟩:=bind_some hF
     refine qa un9 rfl rfl hy_14 wz ?_
     obtain ⟨r_15,hr_16,hF⟩:=bind_some hF
     refine aF (qf hr_16) rfl hb117 rfl rfl rfl rfl wz (aa (vS cutset_2) ?_)
     obtain ⟨b_17,hy_18,hF⟩:=bind_some hF
     refine qa un9 rfl rfl hy_18 wz ?_
     obtain ⟨r_19,hr_20,hF⟩:=bind_some hF
     refine aF (qQ hr_20) rfl hb116 rfl rfl rfl rfl wz (aa (vS r_19) (af ?_))
     obtain rfl:=ae hF
     exact ay (aM [(vS r_19)] ⟨rfl,trivial⟩)
    ·refine aA rfl hc_12 (ax (ak (ai (aa (vS cutset_2) ?_))))
     cases hF
theorem og {x0:ByteArray} {x1:ByteArray} {r:Bool} (hF:strings_Contains x0 x1=some r) :
  FnM Tryz.prog 93 [(vS x0),(vS x1)] [] (vB r) [] :=
 En Tryz.strings_Contains Eg hF
theorem Ae {s_1:ByteArray} {r:Bool} (hF:kC s_1=some r) :
  FnM Tryz.prog 74 [(vS s_1)] [] (vB r) []:=by
 refine FnM.of_wH ⟨Tryz.prog,33,[],[]⟩ rfl Tryz.func74 rfl rfl (lb_ rfl) (by kernel_rfl) ?_
 unfold kC at hF
 refine ai (aa (vB false) (af (ak (ai (aa (vI 0) (af ?_))))))
 obtain ⟨o_10,hj_11,hF⟩:=bind_some hF
 obtain ⟨nq_31,hj_11⟩:=gD hj_11
 refine jF (λ(s_7:Int)=>[(0,(vS s_1))]) (λ(s_7:Int)=>[]) (λ(k_2:Nat)=>(λ(s_7:Int)=>[(0,(vS s_1)),(3,(vI s_7))])) (λs=>mF s_1 s) o_10 nq_31 0 hj_11 rfl (aL rfl) ?_ ?_
 ·rintro ⟨k_2,s_7⟩ hL_9
  dsimp only at hL_9
  cases k_2 with
  | zero=>cases hL_9
  | succ k_2 =>
   obtain ⟨c_,hc_8,hL_9⟩:=bind_some hL_9
   unfold mF at hc_8
   refine ak (ai (aa (vI s_7) (aa (vS s_1) (nX un9 rfl wz (aa (vB (decide (s_7<(s_1.size:Int)))) (af ?_))))))
   rcases aj hc_8 with⟨hc_12,hc_8⟩|⟨hc_12,hc_8⟩
   ·refine aB rfl hc_12 (ax (ak (aN (ak ?_))))
    obtain ⟨v_13,h_14,hc_8⟩:=bind_some hc_8
    refine aO [(0,(vS s_1)),(3,(vI s_7)),(19,(vB v_13))] [] ?_ ?_
    ·refine au (aa (vS s_1) (aa (vI s_7) ?_))
     obtain ⟨b_15,hy_16,h_14⟩:=bind_some h_14
     refine qa un9 rfl rfl hy_16 wz (aa (vB (decide ((b_15.toNat:Int)<32))) ?_)
     rcases aj h_14 with⟨hc_17,h_14⟩|⟨hc_17,h_14⟩
     ·refine aC rfl hc_17 wz (ah (ah (ah (ah (aa (vB true) (af ?_))))))
      obtain rfl:=ae h_14
      exact cu
     ·refine aC rfl hc_17 wz (aI (vS s_1) wa rfl (aI (vI s_7) wa rfl ?_))
      obtain ⟨b_18,hy_19,h_14⟩:=bind_some h_14
      refine qa un9 rfl rfl hy_19 wa (aI (vB ((b_18.toNat:Int)==127)) wa rfl (aa (vB ((b_18.toNat:Int)==127)) (af ?_)))
      obtain rfl:=ae h_14
      exact cu
    ·rintro ⟨⟩ _ sl_ H_ hp_ hq_
     refine aP _ hp_ hq_ ?_
     rcases aj hc_8 with⟨hc_20,hc_8⟩|⟨hc_20,hc_8⟩
     ·refine aB rfl hc_20 (ai (aa (vB false) (af ?_)))
      obtain rfl:=ae hc_8
      obtain rfl:=ae hL_9
      obtain rfl:=ae hF
      exact ay (aM [(vB false)] ⟨rfl,trivial⟩)
     ·refine aA rfl hc_20 (ax (au (aa (vI s_7) (aa (vI (w64 (s_7+1))) (aa (vI (w64 (s_7+1))) (af ?_))))))
      obtain rfl:=ae hc_8
      exact bg (k_2,(w64 (s_7+1))) hL_9 (ls_ _) rfl (aL rfl)
   ·refine aA rfl hc_12 (bn ?_)
    obtain rfl:=ae hc_8
    obtain rfl:=ae hL_9
    exact aW (s_7) rfl rfl (aL rfl)
 ·rintro s_7 ho_ sl_ H_ hp_ hq_
  subst ho_
  refine aP _ hp_ hq_ (ak ?_)
  obtain ⟨v_21,h_22,hF⟩:=bind_some hF
  refine aO [(2,(vB v_21))] [] ?_ ?_
  ·refine au (aa (vS s_1) ?_)
   obtain ⟨r_23,hr_24,h_22⟩:=bind_some h_22
   refine aF (jQ hr_24) rfl hb89 rfl rfl rfl rfl wz ?_
   rcases aj h_22 with⟨hc_25,h_22⟩|⟨hc_25,h_22⟩
   ·refine aC rfl hc_25 wz (aI (vS s_1) wa rfl ?_)
    obtain ⟨r_26,hr_27,h_22⟩:=bind_some h_22
    refine aF (sG hr_27) rfl hb92 rfl rfl rfl rfl wa (aI (vS s_1) wa rfl (aI (vB (sEq r_26 s_1)) wa rfl (aa (vB (sEq r_26 s_1)) ?_)))
    rcases aj h_22 with⟨hc_28,h_22⟩|⟨hc_28,h_22⟩
    ·refine aC rfl hc_28 wz (aI (vS s_1) wa rfl ?_)
     obtain ⟨r_29,hr_30,h_22⟩:=bind_some h_22
     refine aF (og hr_30) rfl hb93 rfl rfl rfl rfl wa (aI (vB (!r_29)) wa rfl (aa (vB (!r_29)) (aa (vB (!r_29)) (af ?_))))
     obtain rfl:=ae h_22
     exact cu
    ·refine aC rfl hc_28 wz (ah (ah (ah (aa (vB false) (aa (vB false) (af ?_))))))
     obtain rfl:=ae h_22
     exact cu
   ·refine aC rfl hc_25 wz (ah (ah (ah (ah (aa (vB false) (aa (vB false) (ah (ah (ah (aa (vB false) (aa (vB false) (af ?_))))))))))))
    obtain rfl:=ae h_22
    exact cu
  ·rintro ⟨⟩ _ sl_ H_ hp_ hq_
   refine aP _ hp_ hq_ ?_
   obtain rfl:=ae hF
   exact ay (aM [(vB v_21)] ⟨rfl,trivial⟩)
theorem uJ {a_1:Alert} {r:Int} (hF:fK a_1=some r) :
  FnM Tryz.prog 51 [(.d (.agg (Alert.enc a_1)))] [] (vI r) []:=by
 refine FnM.of_wH ⟨Tryz.prog,92,[],[]⟩ rfl Tryz.func51 rfl rfl (lb_ rfl) (by kernel_rfl) ?_
 unfold fK at hF
 refine ai (gP 0 (.inl rfl) (Alert.v a_1) rfl rfl wz (λn_2=>aa (vI 0) (af (ak (ak ?_)))))
 obtain ⟨v_3,h_4,hF⟩:=bind_some hF
 refine aO [(1,(.ref n_2 0 0)),(17,(vB v_3))] [(n_2,some (.cells 9 (Alert.v a_1)))] ?_ ?_
 ·refine au (aH fw rfl 0 rfl wz (aG 0 0 il ft sz9 ag9 rfl rfl (vS a_1.Id) rfl wz ?_))
  obtain ⟨r_5,hr_6,h_4⟩:=bind_some h_4
  refine aF (oq hr_6) rfl hb70 rfl rfl rfl rfl wz (aa (vB (!r_5)) ?_)
  rcases aj h_4 with⟨hc_7,h_4⟩|⟨hc_7,h_4⟩
  ·refine aC rfl hc_7 wz (ah (ah (ah (ah (aa (vB true) (af ?_))))))
   obtain rfl:=ae h_4
   exact cu
  ·refine aC rfl hc_7 wz (aH vz rfl 1 rfl wa (aG 0 0 il ft sz9 ag9 rfl rfl (vS a_1.Sender) rfl wa ?_))
   obtain ⟨r_8,hr_9,h_4⟩:=bind_some h_4
   refine aF (oq hr_9) rfl hb70 rfl rfl rfl rfl wa (aI (vB (!r_8)) wa rfl (aa (vB (!r_8)) (af ?_)))
   obtain rfl:=ae h_4
   exact cu
 ·rintro ⟨⟩ _ sl_ H_ hp_ hq_
  refine aP _ hp_ hq_ ?_
  rcases aj hF with⟨hc_10,hF⟩|⟨hc_10,hF⟩
  ·refine aB rfl hc_10 (ai (aa (vI 5) (af ?_)))
   obtain rfl:=ae hF
   exact ay (aM [(vI 5)] ⟨rfl,trivial⟩)
  ·refine aA rfl hc_10 (ax (ak (ai (aH nQ rfl 2 rfl wz (aG 0 0 il ft sz3 ag3 rfl rfl (vI a_1.Kind) rfl wz ?_)))))
   obtain ⟨r_11,hr_12,hF⟩:=bind_some hF
   refine aF (fC hr_12) rfl Co rfl rfl rfl rfl wz (af ?_)
   rcases aj hF with⟨hc_13,hF⟩|⟨hc_13,hF⟩
   ·refine aB rfl hc_13 (ai (aa (vI 4) (af ?_)))
    obtain rfl:=ae hF
    exact ay (aM [(vI 4)] ⟨rfl,trivial⟩)
   ·refine aA rfl hc_13 (ax (ak (ai (aG 0 0 il ft fo iW rfl rfl (.d (.agg (Alert.enc a_1))) rfl wz ?_))))
    obtain ⟨r_14,hr_15,hF⟩:=bind_some hF
    refine aF (vw hr_15) rfl hb72 rfl rfl rfl rfl wz (aa (vI r_14) (af (ai (aa (vI r_14) (aa (vB (r_14 != 0)) (af ?_))))))
    rcases aj hF with⟨hc_16,hF⟩|⟨hc_16,hF⟩
    ·refine aB rfl hc_16 (ai (aa (vI r_14) (aa (vI r_14) (af ?_))))
     obtain rfl:=ae hF
     exact ay (aM [(vI r_14)] ⟨rfl,trivial⟩)
    ·refine aA rfl hc_16 (ax (ak (ak ?_)))
     obtain ⟨v_17,h_18,hF⟩:=bind_some hF
     refine aO [(1,(.ref n_2 0 0)),(45,(vB v_17))] [(n_2,some (.cells 9 (Alert.v a_1)))] ?_ ?_
     ·refine au (aH iw rfl 4 rfl wz (aG 0 0 il ft sz3 ag3 rfl rfl (vI a_1.At) rfl wz ?_))
      obtain ⟨r_19,hr_20,h_18⟩:=bind_some h_18
      refine aF (sF hr_20) rfl hb57 rfl rfl rfl rfl wz (aa (vB (!r_19)) ?_)
      rcases aj h_18 with⟨hc_21,h_18⟩|⟨hc_21,h_18⟩
      ·refine aC rfl hc_21 wz (ah (ah (ah (ah (ah (ah (ah (ah (ah (aa (vB true) (aa (vB true) (ah (ah (ah (aa (vB true) (af ?_))))))))))))))))
       obtain rfl:=ae h_18
       exact cu
      ·refine aC rfl hc_21 wz (aH xm rfl 5 rfl wa (aG 0 0 il ft sz3 ag3 rfl rfl (vI a_1.Until) rfl wa (aH iw rfl 4 rfl wa (aG 0 0 il ft sz3 ag3 rfl rfl (vI a_1.At) rfl wa (aI (vI (w64 (a_1.At+1))) wa rfl (aH iw rfl 4 rfl wa (aG 0 0 il ft sz3 ag3 rfl rfl (vI a_1.At) rfl wa (aI (vI (w64 (a_1.At+2592000000))) wa rfl ?_))))))))
       obtain ⟨r_22,hr_23,h_18⟩:=bind_some h_18
       refine aF (fC hr_23) rfl Co rfl rfl rfl rfl wa (aa (vB r_22) ?_)
       rcases aj h_18 with⟨hc_24,h_18⟩|⟨hc_24,h_18⟩
       ·refine aC rfl hc_24 wz (ah (ah (ah (aa (vB true) (af ?_)))))
        obtain rfl:=ae h_18
        exact cu
       ·refine aC rfl hc_24 wz (aH FZ rfl 6 rfl wa (aG 0 0 il ft sz3 ag3 rfl rfl (vI a_1.Weight) rfl wa ?_))
        obtain ⟨r_25,hr_26,h_18⟩:=bind_some h_18
        refine aF (fC hr_26) rfl Co rfl rfl rfl rfl wa (aa (vB r_25) (af ?_))
        obtain rfl:=ae h_18
        exact cu
     ·rintro ⟨⟩ _ sl_ H_ hp_ hq_
      refine aP _ hp_ hq_ ?_
      rcases aj hF with⟨hc_27,hF⟩|⟨hc_27,hF⟩
      ·refine aB rfl hc_27 (ai (aa (vI 1) (af ?_)))
       obtain rfl:=ae hF
       exact ay (aM [(vI 1)] ⟨rfl,trivial⟩)
      ·refine aA rfl hc_27 (ax (ak (ai (aH qd rfl 7 rfl wz (aG 0 0 il ft AR Eo rfl rfl (vL Rect.enc a_1.Areas) rfl wz (dB GX rfl wz (aa (vB (decide ((a_1.Areas.length:Int)>20))) (af ?_))))))))
       rcases aj hF with⟨hc_28,hF⟩|⟨hc_28,hF⟩
       ·refine aB rfl hc_28 (ai (aa (vI 2) (af ?_)))
        obtain rfl:=ae hF
        exact ay (aM [(vI 2)] ⟨rfl,trivial⟩)
       ·refine aA rfl hc_28 (ax (ak (ai (aH qd rfl 7 rfl wz (aG 0 0 il ft AR Eo rfl rfl (vL Rect.enc a_1.Areas) rfl wz (dB GX rfl wz (aa (vI 0) (af ?_))))))))
        obtain ⟨o_37,hj_38,hF⟩:=bind_some hF
        obtain ⟨hn_33,hj_38⟩:=aZ hj_38
        refine dF (λ(s_34:Unit)=>[(1,(.ref n_2 0 0))]) (λ(s_34:Unit)=>[(n_2,some (.cells 9 (Alert.v a_1)))]) (λ(k_29:Nat)=>(λ(s_34:Unit)=>[(1,(.ref n_2 0 0)),(51,(vL Rect.enc a_1.Areas)),(52,(vI (a_1.Areas.length:Int))),(53,(vI (k_29:Int)))])) (λk x s=>dY k x s) o_37 a_1.Areas () hj_38 rfl (aL rfl) ?_ ?_
        ·rintro ⟨k_29,l_30,s_34⟩ ⟨hL_36,hD_32⟩
         dsimp only at hL_36 hD_32
         cases l_30 with
         | nil =>
          obtain rfl:=ae hL_36
          refine ai (aa (vB (decide ((k_29:Int)<(a_1.Areas.length:Int)))) (af ?_))
          refine ak (aA rfl (drop_nil hD_32) (bn ?_))
          exact aW (s_34) rfl rfl (aL rfl)
         | cons x_31 l_30 =>
          obtain ⟨c_,hc_35,hL_36⟩:=bind_some hL_36
          refine ai (aa (vB (decide ((k_29:Int)<(a_1.Areas.length:Int)))) (af ?_))
          refine ak (aB rfl (bC hD_32) (ax ?_))
          unfold dY at hc_35
          refine ak (aN (ai (iV Iu rfl rfl (bT hD_32) rfl wz (eP sI Cw rfl (.d (.agg (Rect.enc x_31))) rfl wz (fF 0 (.inl rfl) z75 rfl wz (λn_39=>fV 0 il ft 1 sI rfl rfl (Rect.v x_31) rfl wz (af (ai (aG 0 1 il ft sI Cw rfl rfl (.d (.agg (Rect.enc x_31))) rfl wz ?_)))))))))
          obtain ⟨r_40,hr_41,hc_35⟩:=bind_some hc_35
          refine aF (uI hr_41) rfl hb73 rfl rfl rfl rfl wz (aa (vI r_40) (af (ai (aa (vI r_40) (aa (vB (r_40 != 0)) (af ?_))))))
          rcases aj hc_35 with⟨hc_42,hc_35⟩|⟨hc_42,hc_35⟩
          ·refine aB rfl hc_42 (ai (aa (vI r_40) (aa (vI r_40) (af ?_))))
           obtain rfl:=ae hc_35
           obtain rfl:=ae hL_36
           obtain rfl:=ae hF
           exact ay (aM [(vI r_40)] ⟨rfl,trivial⟩)
          ·refine aA rfl hc_42 (ax (au (fQ (bL hD_32 hn_33) wz rfl (aa (vI ((k_29+1:Nat):Int)) (af ?_)))))
           obtain rfl:=ae hc_35
           exact bg (k_29+1,l_30,()) ⟨hL_36,aS hD_32⟩ (ls_ _) rfl (aL rfl)
        ·rintro s_34 ho_ sl_ H_ hp_ hq_
         subst ho_
         refine aP _ hp_ hq_ (ai (aH nQ rfl 2 rfl wz (aG 0 0 il ft sz3 ag3 rfl rfl (vI a_1.Kind) rfl wz (aa (vB (a_1.Kind==3)) (aa (vB (a_1.Kind==3)) (af (ak (aN (ai (aa (vB (a_1.Kind==3)) (aH qd rfl 7 rfl wz (aG 0 0 il ft AR Eo rfl rfl (vL Rect.enc a_1.Areas) rfl wz (dB GX rfl wz (aa (vB ((a_1.Areas.length:Int)==0)) (Cz un4 rfl rfl wz (aa (vB (!((a_1.Kind==3)==((a_1.Areas.length:Int)==0)))) (af ?_)))))))))))))))))
         rcases aj hF with⟨hc_43,hF⟩|⟨hc_43,hF⟩
         ·refine aB rfl hc_43 (ai (aa (vI 3) (af ?_)))
          obtain rfl:=ae hF
          exact ay (aM [(vI 3)] ⟨rfl,trivial⟩)
         ·refine aA rfl hc_43 (ai (aH sM rfl 8 rfl wz (aG 0 0 il ft sz9 ag9 rfl rfl (vS a_1.Text) rfl wz (nX un9 rfl wz (aa (vB (decide ((a_1.Text.size:Int)>500))) (aa (vB (decide ((a_1.Text.size:Int)>500))) (af ?_)))))))
          rcases aj hF with⟨hc_44,hF⟩|⟨hc_44,hF⟩
          ·refine aB rfl hc_44 (ai (aa (vI 2) (af ?_)))
           obtain rfl:=ae hF
           exact ay (aM [(vI 2)] ⟨rfl,trivial⟩)
          ·refine aA rfl hc_44 (ak ?_)
           obtain ⟨v_45,h_46,hF⟩:=bind_some hF
           refine aO [(78,(vB v_45))] [(n_2,some (.cells 9 (Alert.v a_1)))] ?_ ?_
           ·refine au (aH sM rfl 8 rfl wz (aG 0 0 il ft sz9 ag9 rfl rfl (vS a_1.Text) rfl wz ?_))
            obtain ⟨r_47,hr_48,h_46⟩:=bind_some h_46
            refine aF (Ae hr_48) rfl hb74 rfl rfl rfl rfl wz (aa (vB (!r_47)) ?_)
            rcases aj h_46 with⟨hc_49,h_46⟩|⟨hc_49,h_46⟩
            ·refine aC rfl hc_49 wz (ah (ah (ah (ah (eD (wn rfl rfl) (eD (wn rfl rfl) (ah (aa (vB true) (aa (vB true) (af ?_))))))))))
             obtain rfl:=ae h_46
             exact cu
            ·refine aC rfl hc_49 wz (aH sM rfl 8 rfl wa (aG 0 0 il ft sz9 ag9 rfl rfl (vS a_1.Text) rfl wa (aI (vB (sEq a_1.Text (⟨#[]⟩:ByteArray))) wa rfl ?_)))
             rcases aj h_46 with⟨hc_50,h_46⟩|⟨hc_50,h_46⟩
             ·refine aC rfl hc_50 wa (aI (vB (a_1.Kind==3)) wa rfl (aI (vB (!(a_1.Kind==3))) wa rfl (aI (vB (!(a_1.Kind==3))) wa rfl (aa (vB (!(a_1.Kind==3))) (aa (vB (!(a_1.Kind==3))) (af ?_))))))
              obtain rfl:=ae h_46
              exact cu
             ·refine aC rfl hc_50 wa (ah (ah (aI (vB false) wa rfl (aa (vB false) (aa (vB false) (af ?_))))))
              obtain rfl:=ae h_46
              exact cu
           ·rintro ⟨⟩ _ sl_ H_ hp_ hq_
            refine aP _ hp_ hq_ ?_
            rcases aj hF with⟨hc_51,hF⟩|⟨hc_51,hF⟩
            ·refine aB rfl hc_51 (ai (aa (vI 3) (af ?_)))
             obtain rfl:=ae hF
             exact ay (aM [(vI 3)] ⟨rfl,trivial⟩)
            ·refine aA rfl hc_51 (ax (ai (aa (vI 0) (af ?_))))
             obtain rfl:=ae hF
             exact ay (aM [(vI 0)] ⟨rfl,trivial⟩)
theorem qX {x_1:Int} {r:Bool} (hF:cmp_isNaN_int x_1=some r) :
  FnM Tryz.prog 106 [(vI x_1)] [] (vB r) []:=by
 refine FnM.of_wH ⟨Tryz.prog,6,[],[]⟩ rfl Tryz.func106 rfl rfl (lb_ rfl) (by kernel_rfl) ?_
 unfold cmp_isNaN_int at hF
 refine ai (aa (vB false) (af (ai (aa (vI x_1) (aa (vI x_1) (aa (vB (x_1 != x_1)) (aa (vB (x_1 != x_1)) (af ?_))))))))
 obtain rfl:=ae hF
 exact ay (aM [(vB (x_1 != x_1))] ⟨rfl,trivial⟩)
theorem vT {x_1:Int} {y_2:Int} {r:Int} (hF:cmp_Compare_int x_1 y_2=some r) :
  FnM Tryz.prog 76 [(vI x_1),(vI y_2)] [] (vI r) []:=by
 refine FnM.of_wH ⟨Tryz.prog,20,[],[]⟩ rfl Tryz.func76 rfl rfl (lb_ rfl) (by kernel_rfl) ?_
 unfold cmp_Compare_int at hF
 refine ai (aa (vI 0) (af (ai (aa (vI x_1) ?_))))
 obtain ⟨r_3,hr_4,hF⟩:=bind_some hF
 refine aF (qX hr_4) rfl hb106 rfl rfl rfl rfl wz (aa (vB r_3) (af (ai (aa (vI y_2) ?_))))
 obtain ⟨r_5,hr_6,hF⟩:=bind_some hF
 refine aF (qX hr_6) rfl hb106 rfl rfl rfl rfl wz (aa (vB r_5) (af (ak (ai (aa (vB r_3) (af ?_))))))
 rcases aj hF with⟨hc_7,hF⟩|⟨hc_7,hF⟩
 ·refine aB rfl hc_7 (ak (ai (aa (vB r_5) (af ?_))))
  rcases aj hF with⟨hc_8,hF⟩|⟨hc_8,hF⟩
  ·refine aB rfl hc_8 (ai (aa (vI 0) (af ?_)))
   obtain rfl:=ae hF
   exact ay (aM [(vI 0)] ⟨rfl,trivial⟩)
  ·refine aA rfl hc_8 (ax (ai (aa (vI (-1)) (af ?_))))
   obtain rfl:=ae hF
   exact ay (aM [(vI (-1))] ⟨rfl,trivial⟩)
 ·refine aA rfl hc_7 (ax (ak (ai (aa (vB r_5) (af ?_)))))
  rcases aj hF with⟨hc_9,hF⟩|⟨hc_9,hF⟩
  ·refine aB rfl hc_9 (ai (aa (vI 1) (af ?_)))
   obtain rfl:=ae hF
   exact ay (aM [(vI 1)] ⟨rfl,trivial⟩)
  ·refine aA rfl hc_9 (ax (ak (ai (aa (vI x_1) (aa (vI y_2) (aa (vB (decide (x_1<y_2))) (af ?_)))))))
   rcases aj hF with⟨hc_10,hF⟩|⟨hc_10,hF⟩
   ·refine aB rfl hc_10 (ai (aa (vI (-1)) (af ?_)))
    obtain rfl:=ae hF
    exact ay (aM [(vI (-1))] ⟨rfl,trivial⟩)
   ·refine aA rfl hc_10 (ax (ak (ai (aa (vI x_1) (aa (vI y_2) (aa (vB (decide (x_1>y_2))) (af ?_)))))))
    rcases aj hF with⟨hc_11,hF⟩|⟨hc_11,hF⟩
    ·refine aB rfl hc_11 (ai (aa (vI 1) (af ?_)))
     obtain rfl:=ae hF
     exact ay (aM [(vI 1)] ⟨rfl,trivial⟩)
    ·refine aA rfl hc_11 (ax (ai (aa (vI 0) (af ?_))))
     obtain rfl:=ae hF
     exact ay (aM [(vI 0)] ⟨rfl,trivial⟩)
theorem lN {a_1:ByteArray} {b_2:ByteArray} {r:Int} (hF:fI a_1 b_2=some r) :
  FnM Tryz.prog 94 [(vS a_1),(vS b_2)] [] (vI r) []:=by
 refine FnM.of_wH ⟨Tryz.prog,8,[],[]⟩ rfl Tryz.func94 rfl rfl (lb_ rfl) (by kernel_rfl) ?_
 unfold fI at hF
 refine ai (aa (vI 0) (af (ai (aa (vS a_1) (aa (vS b_2) (h_ext (J8 (f:=124) Tryz.func124 rfl rfl (by kernel_rfl) (by kernel_rfl) _ _) rfl nb124 rfl wz (aa (vI (zD a_1 b_2)) (af ?_))))))))
 obtain rfl:=ae hF
 exact ay (aM [(vI (zD a_1 b_2))] ⟨rfl,trivial⟩)
theorem oH {a_1:ByteArray} {b_2:ByteArray} {r:Int} (hF:strings_Compare a_1 b_2=some r) :
  FnM Tryz.prog 63 [(vS a_1),(vS b_2)] [] (vI r) []:=by
 refine FnM.of_wH ⟨Tryz.prog,8,[],[]⟩ rfl Tryz.func63 rfl rfl (lb_ rfl) (by kernel_rfl) ?_
 unfold strings_Compare at hF
 refine ai (aa (vI 0) (af (ai (aa (vS a_1) (aa (vS b_2) ?_)))))
 obtain ⟨r_3,hr_4,hF⟩:=bind_some hF
 refine aF (lN hr_4) rfl hb94 rfl rfl rfl rfl wz (aa (vI r_3) (af ?_))
 obtain rfl:=ae hF
 exact ay (aM [(vI r_3)] ⟨rfl,trivial⟩)
theorem Bd {vals_1:(List Int)} {r:Int} (hF:pE vals_1=some r) :
  FnM Tryz.prog 75 [(vL eI vals_1)] [] (vI r) []:=by
 refine FnM.of_wH ⟨Tryz.prog,18,[],[]⟩ rfl Tryz.func75 rfl rfl (lb_ rfl) (by kernel_rfl) ?_
 unfold pE at hF
 refine ai (aa (vI 0) (af (ai (aa (vI 0) (af (ak (ai (aa (vL eI vals_1) (dB EK rfl wz (aa (vI 0) (af ?_)))))))))))
 obtain ⟨o_10,hj_11,hF⟩:=bind_some hF
 obtain ⟨hn_6,hj_11⟩:=aZ hj_11
 refine dF (λ(s_7:Unit)=>[(3,(vI 0))]) (λ(s_7:Unit)=>[]) (λ(k_2:Nat)=>(λ(s_7:Unit)=>[(3,(vI 0)),(6,(vL eI vals_1)),(7,(vI (vals_1.length:Int))),(8,(vI (k_2:Int)))])) (λk x s=>nk k x s) o_10 vals_1 () hj_11 rfl (aL rfl) ?_ ?_
 ·rintro ⟨k_2,l_3,s_7⟩ ⟨hL_9,hD_5⟩
  dsimp only at hL_9 hD_5
  cases l_3 with
  | nil =>
   obtain rfl:=ae hL_9
   refine ai (aa (vB (decide ((k_2:Int)<(vals_1.length:Int)))) (af ?_))
   refine ak (aA rfl (drop_nil hD_5) (bn ?_))
   exact aW (s_7) rfl rfl (aL rfl)
  | cons x_4 l_3 =>
   obtain ⟨c_,hc_8,hL_9⟩:=bind_some hL_9
   refine ai (aa (vB (decide ((k_2:Int)<(vals_1.length:Int)))) (af ?_))
   refine ak (aB rfl (bC hD_5) (ax ?_))
   unfold nk at hc_8
   refine ak (aN (ai (iV pK rfl rfl (bT hD_5) rfl wz (eP sz3 ag3 rfl (vI x_4) rfl wz (aa (vI x_4) (af (ai (aa (vI x_4) (aa (vI 0) (aa (vB (x_4 != 0)) (af ?_)))))))))))
   rcases aj hc_8 with⟨hc_12,hc_8⟩|⟨hc_12,hc_8⟩
   ·refine aB rfl hc_12 (ai (aa (vI x_4) (aa (vI x_4) (af ?_))))
    obtain rfl:=ae hc_8
    obtain rfl:=ae hL_9
    obtain rfl:=ae hF
    exact ay (aM [(vI x_4)] ⟨rfl,trivial⟩)
   ·refine aA rfl hc_12 (ax (au (fQ (bL hD_5 hn_6) wz rfl (aa (vI ((k_2+1:Nat):Int)) (af ?_)))))
    obtain rfl:=ae hc_8
    exact bg (k_2+1,l_3,()) ⟨hL_9,aS hD_5⟩ (ls_ _) rfl (aL rfl)
 ·rintro s_7 ho_ sl_ H_ hp_ hq_
  subst ho_
  refine aP _ hp_ hq_ (ai (aa (vI 0) (aa (vI 0) (af ?_))))
  obtain rfl:=ae hF
  exact ay (aM [(vI 0)] ⟨rfl,trivial⟩)
theorem qI {a_1:Alert} {b_2:Alert} {r:Int} (hF:gN a_1 b_2=some r) :
  FnM Tryz.prog 52 [(.d (.agg (Alert.enc a_1))),(.d (.agg (Alert.enc b_2)))] [] (vI r) []:=by
 refine FnM.of_wH ⟨Tryz.prog,17,[],[]⟩ rfl Tryz.func52 rfl rfl (lb_ rfl) (by kernel_rfl) ?_
 unfold gN at hF
 refine ai (gP 0 (.inl rfl) (Alert.v a_1) rfl rfl wz (λn_3=>gP 0 (.inl rfl) (Alert.v b_2) rfl rfl wz (λn_4=>aa (vI 0) (af (ak (fG (aH iw rfl 4 rfl wz (aG 1 0 (.inr (by kernel_rfl)) (λ_ _ ag=>trivial) sz3 ag3 rfl rfl (vI a_1.At) rfl wz (aH iw rfl 4 rfl wz (aG 3 1 (.inr (by kernel_rfl)) (λ_ _ ag=>⟨.inl ⟨rfl,rfl⟩,trivial⟩) sz3 ag3 rfl rfl (vI b_2.At) rfl wz ?_))))))))))
 obtain ⟨r_5,hr_6,hF⟩:=bind_some hF
 refine aF (vT hr_6) rfl hb76 rfl rfl rfl rfl wz (aH fw rfl 0 rfl wz (aG 6 0 (.inr (by kernel_rfl)) (λ_ _ ag=>⟨.inl ⟨rfl,rfl⟩,⟨.inl ⟨rfl,rfl⟩,trivial⟩⟩) sz9 ag9 rfl rfl (vS a_1.Id) rfl wz (aH fw rfl 0 rfl wz (aG 8 1 (.inr (by kernel_rfl)) (λ_ _ ag=>⟨.inl ⟨rfl,rfl⟩,⟨.inl ⟨rfl,rfl⟩,⟨.inl ⟨rfl,rfl⟩,trivial⟩⟩⟩) sz9 ag9 rfl rfl (vS b_2.Id) rfl wz ?_))))
 obtain ⟨r_7,hr_8,hF⟩:=bind_some hF
 refine aF (oH hr_8) rfl hb63 rfl rfl rfl rfl wz (eO (([r_5,r_7]:List Int).map eI) pK xw rfl rfl rfl rfl rfl wz ?_)
 obtain ⟨r_9,hr_10,hF⟩:=bind_some hF
 refine aF (Bd hr_10) rfl hb75 rfl rfl rfl rfl wz (aa (vI r_9) (af ?_))
 obtain rfl:=ae hF
 exact ay (aM [(vI r_9)] ⟨rfl,trivial⟩)
theorem iO {l_1:(List Alert)} {r:Int} (hF:bB l_1=some r) :
  FnM Tryz.prog 25 [(vL Alert.enc l_1)] [] (vI r) []:=by
 refine FnM.of_wH ⟨Tryz.prog,52,[],[]⟩ rfl Tryz.func25 rfl rfl (lb_ rfl) (by kernel_rfl) ?_
 unfold bB at hF
 refine ai (aa (vI 0) (af (ak (ai (aa (vL Alert.enc l_1) (dB qi rfl wz (aa (vB (decide ((l_1.length:Int)>300))) (af ?_))))))))
 rcases aj hF with⟨hc_2,hF⟩|⟨hc_2,hF⟩
 ·refine aB rfl hc_2 (ai (aa (vI 2) (af ?_)))
  obtain rfl:=ae hF
  exact ay (aM [(vI 2)] ⟨rfl,trivial⟩)
 ·refine aA rfl hc_2 (ax (ak (ai (aa (vL Alert.enc l_1) (dB qi rfl wz (aa (vI 0) (af ?_)))))))
  obtain ⟨o_11,hj_12,hF⟩:=bind_some hF
  obtain ⟨hn_7,hj_12⟩:=aZ hj_12
  refine dF (λ(s_8:Unit)=>[(0,(vL Alert.enc l_1))]) (λ(s_8:Unit)=>[]) (λ(k_3:Nat)=>(λ(s_8:Unit)=>[(0,(vL Alert.enc l_1)),(12,(vL Alert.enc l_1)),(13,(vI (l_1.length:Int))),(14,(vI (k_3:Int)))])) (λk x s=>dh l_1 k x s) o_11 l_1 () hj_12 rfl (aL rfl) ?_ ?_
  ·rintro ⟨k_3,l_4,s_8⟩ ⟨hL_10,hD_6⟩
   dsimp only at hL_10 hD_6
   cases l_4 with
   | nil =>
    obtain rfl:=ae hL_10
    refine ai (aa (vB (decide ((k_3:Int)<(l_1.length:Int)))) (af ?_))
    refine ak (aA rfl (drop_nil hD_6) (bn ?_))
    exact aW (s_8) rfl rfl (aL rfl)
   | cons x_5 l_4 =>
    obtain ⟨c_,hc_9,hL_10⟩:=bind_some hL_10
    refine ai (aa (vB (decide ((k_3:Int)<(l_1.length:Int)))) (af ?_))
    refine ak (aB rfl (bC hD_6) (ax ?_))
    unfold dh at hc_9
    refine ak (aN (ai (aa (vI (k_3:Int)) (iV nM rfl rfl (bT hD_6) rfl wz (eP fo iW rfl (.d (.agg (Alert.enc x_5))) rfl wz (fF 0 (.inl rfl) z51 rfl wz (λn_13=>aa (vI (k_3:Int)) (fV 0 il ft 0 fo rfl rfl (Alert.v x_5) rfl wz (af (ak (ai (aG 0 0 il ft fo iW rfl rfl (.d (.agg (Alert.enc x_5))) rfl wz ?_))))))))))))
    obtain ⟨r_14,hr_15,hc_9⟩:=bind_some hc_9
    refine aF (uJ hr_15) rfl hb51 rfl rfl rfl rfl wz (aa (vI r_14) (af (ai (aa (vI r_14) (aa (vB (r_14 != 0)) (af ?_))))))
    rcases aj hc_9 with⟨hc_16,hc_9⟩|⟨hc_16,hc_9⟩
    ·refine aB rfl hc_16 (ai (aa (vI r_14) (aa (vI r_14) (af ?_))))
     obtain rfl:=ae hc_9
     obtain rfl:=ae hL_10
     obtain rfl:=ae hF
     exact ay (aM [(vI r_14)] ⟨rfl,trivial⟩)
    ·refine aA rfl hc_16 (ax (ak ?_))
     obtain ⟨v_17,h_18,hc_9⟩:=bind_some hc_9
     refine aO [(0,(vL Alert.enc l_1)),(12,(vL Alert.enc l_1)),(13,(vI (l_1.length:Int))),(14,(vI (k_3:Int))),(35,(vB v_17))] [(n_13,some (.cells 9 (Alert.v x_5)))] ?_ ?_
     ·refine fG (aa (vI (k_3:Int)) (aa (vB (decide ((k_3:Int)>0))) ?_))
      rcases aj h_18 with⟨hc_19,h_18⟩|⟨hc_19,h_18⟩
      ·refine aC rfl hc_19 wz (aI (vL Alert.enc l_1) wa rfl (aI (vI (k_3:Int)) wa rfl (aI (vI (w64 ((k_3:Int)-1))) wa rfl ?_)))
       obtain ⟨y_20,hy_21,h_18⟩:=bind_some h_18
       refine iV nM rfl rfl hy_21 rfl wa (eP fo iW rfl (.d (.agg (Alert.enc y_20))) rfl wa (aG 8 0 (.inr (by kernel_rfl)) (λ_ _ ag=>trivial) fo iW rfl rfl (.d (.agg (Alert.enc x_5))) rfl wa ?_))
       obtain ⟨r_22,hr_23,h_18⟩:=bind_some h_18
       refine aF (qI hr_23) rfl hb52 rfl rfl rfl rfl wa (aI (vB (decide (r_22>=0))) wa rfl (aa (vB (decide (r_22>=0))) (af ?_)))
       obtain rfl:=ae h_18
       exact cu
      ·refine aC rfl hc_19 wz (ah (ah (ah (ah (ah (ah (ah (ah (aa (vB false) (af ?_))))))))))
       obtain rfl:=ae h_18
       exact cu
     ·rintro ⟨⟩ _ sl_ H_ hp_ hq_
      refine aP _ hp_ hq_ ?_
      rcases aj hc_9 with⟨hc_24,hc_9⟩|⟨hc_24,hc_9⟩
      ·refine aB rfl hc_24 (ai (aa (vI 7) (af ?_)))
       obtain rfl:=ae hc_9
       obtain rfl:=ae hL_10
       obtain rfl:=ae hF
       exact ay (aM [(vI 7)] ⟨rfl,trivial⟩)
      ·refine aA rfl hc_24 (ax (au (fQ (bL hD_6 hn_7) wz rfl (aa (vI ((k_3+1:Nat):Int)) (af ?_)))))
       obtain rfl:=ae hc_9
       exact bg (k_3+1,l_4,()) ⟨hL_10,aS hD_6⟩ (ls_ _) rfl (aL rfl)
  ·rintro s_8 ho_ sl_ H_ hp_ hq_
   subst ho_
   refine aP _ hp_ hq_ (ai (Dc 0 (.inl rfl) wz (λn_25=>zh (b':=some (bM D.str D.bool ([]:List (ByteArray×Bool)))) 0 rfl rfl (aa (.map n_25) (af (ak (ai (aa (vL Alert.enc l_1) (dB qi rfl wz (aa (vI 0) (af ?_)))))))))))
   obtain ⟨o_34,hj_35,hF⟩:=bind_some hF
   obtain ⟨hn_30,hj_35⟩:=aZ hj_35
   refine dF (λ(s_31:(List (ByteArray×Bool)))=>[]) (λ(s_31:(List (ByteArray×Bool)))=>[(n_25,some (bM D.str D.bool s_31))]) (λ(k_26:Nat)=>(λ(s_31:(List (ByteArray×Bool)))=>[(6,(.map n_25)),(38,(vL Alert.enc l_1)),(39,(vI (l_1.length:Int))),(40,(vI (k_26:Int)))])) (λk x s=>bN k x s) o_34 l_1 ([]:List (ByteArray×Bool)) hj_35 rfl (aL rfl) ?_ ?_
   ·rintro ⟨k_26,l_27,s_31⟩ ⟨hL_33,hD_29⟩
    dsimp only at hL_33 hD_29
    cases l_27 with
    | nil =>
     obtain rfl:=ae hL_33
     refine ai (aa (vB (decide ((k_26:Int)<(l_1.length:Int)))) (af ?_))
     refine ak (aA rfl (drop_nil hD_29) (bn ?_))
     exact aW (s_31) rfl rfl (aL rfl)
    | cons x_28 l_27 =>
     obtain ⟨c_,hc_32,hL_33⟩:=bind_some hL_33
     refine ai (aa (vB (decide ((k_26:Int)<(l_1.length:Int)))) (af ?_))
     refine ak (aB rfl (bC hD_29) (ax ?_))
     unfold bN at hc_32
     refine ak (aN (ai (iV nM rfl rfl (bT hD_29) rfl wz (eP fo iW rfl (.d (.agg (Alert.enc x_28))) rfl wz (fF 0 (.inl rfl) z51 rfl wz (λn_36=>fV 0 il ft 1 fo rfl rfl (Alert.v x_28) rfl wz (af (ak (ai (aa (.map n_25) (aH fw rfl 0 rfl wz (aG 0 1 il ft sz9 ag9 rfl rfl (vS x_28.Id) rfl wz (ES (eq:=eqS) (kD:=D.str) (vD:=D.bool) (es:=s_31) (k:=x_28.Id) (z:=false) 0 0 il ft (λ_ _=>rfl) mt68 (by kernel_rfl) (by kernel_rfl) rfl rfl rfl (vB ((qA eqS s_31 x_28.Id).getD false)) rfl wz (af ?_))))))))))))))
     rcases aj hc_32 with⟨hc_37,hc_32⟩|⟨hc_37,hc_32⟩
     ·refine aB rfl hc_37 (ai (aa (vI 6) (af ?_)))
      obtain rfl:=ae hc_32
      obtain rfl:=ae hL_33
      obtain rfl:=ae hF
      exact ay (aM [(vI 6)] ⟨rfl,trivial⟩)
     ·refine aA rfl hc_37 (ax (au (aa (.map n_25) (aH fw rfl 0 rfl wz (aG 0 1 il ft sz9 ag9 rfl rfl (vS x_28.Id) rfl wz (Aa (eq:=eqS) (kD:=D.str) (vD:=D.bool) (es:=s_31) (k:=x_28.Id) (v:=true) 0 0 il ft (λ_ _=>rfl) mt68 (by kernel_rfl) rfl rfl rfl rfl wz (af (au (fQ (bL hD_29 hn_30) wz rfl (aa (vI ((k_26+1:Nat):Int)) (af ?_)))))))))))
      obtain rfl:=ae hc_32
      exact bg (k_26+1,l_27,(kQ eqS s_31 x_28.Id true)) ⟨hL_33,aS hD_29⟩ (ls_ _) rfl (aL rfl)
   ·rintro s_31 ho_ sl_ H_ hp_ hq_
    subst ho_
    refine aP _ hp_ hq_ (ai (aa (vI 0) (af ?_)))
    obtain rfl:=ae hF
    exact ay (aM [(vI 0)] ⟨rfl,trivial⟩)
theorem wI {a_1:Alert} {p_2:ByteArray} {r:Bool} (hF:eB a_1 p_2=some r) :
  FnM Tryz.prog 27 [(.d (.agg (Alert.enc a_1))),(.ref (av 0) 0 0)] [(.cells 1 [(vS p_2)])] (vB r) [some (.cells 1 [(vS p_2)])]:=by
 refine FnM.of_wH ⟨Tryz.prog,8,[],[]⟩ rfl Tryz.func27 rfl rfl (lb_ rfl) (by kernel_rfl) ?_
 unfold eB at hF
 refine ai (gP 0 (.inl rfl) (Alert.v a_1) rfl rfl wz (λn_3=>aa (vB false) (af (ai (aH fw rfl 0 rfl wz (aG 0 1 il ft sz9 ag9 rfl rfl (vS a_1.Id) rfl wz (aG 0 0 il ft sz9 ag9 rfl rfl (vS p_2) rfl wz (aa (vB (sEq a_1.Id p_2)) (aa (vB (sEq a_1.Id p_2)) (af ?_))))))))))
 obtain rfl:=ae hF
 exact ay (qM (.inr rfl) [(vB (sEq a_1.Id p_2))] _ [0] [av 0] ⟨rfl,trivial⟩ (.cons (fB rfl rfl) (.nil)) (by kernel_rfl) ⟨(by kernel_rfl),trivial⟩ (by decide) (by kernel_rfl))
theorem dJ {s_1:(List Alert)} {f_2:Alert->Option Bool} {r:Int} {gid:FuncId} {caps:List V} {Sin:List Box} (hfn:∀x0 r,f_2 x0=some r->FnM Tryz.prog gid ([(.d (.agg (Alert.enc x0)))]++caps) Sin (vB r) (Sin.map some)) (hbF:aD Tryz.prog gid=true) (hcapF:caps.flatMap frz=[]/\caps.map co0=caps) (hokF:okL Sin.length caps=true) (hsF:∀b∈Sin,b.ok Sin.length=true) (hmF:∀b∈Sin,b.mut=true) (hF:aJ s_1 f_2=some r) :
  FnM Tryz.prog 26 [(vL Alert.enc s_1),(.fn gid caps)] Sin (vI r) (Sin.map some):=by
 refine FnM.of_wH ⟨Tryz.prog,19,[],[]⟩ rfl Tryz.func26 rfl rfl (lb_ rfl) (by kernel_rfl) ?_
 unfold aJ at hF
 refine ai (aa (vI 0) (af (ak (ai (aa (vL Alert.enc s_1) (dB qi rfl wz (aa (vI 0) (af ?_))))))))
 obtain ⟨o_11,hj_12,hF⟩:=bind_some hF
 obtain ⟨hn_7,hj_12⟩:=aZ hj_12
 refine dF (λ(s_8:Unit)=>[]) (λ(s_8:Unit)=>(mg 0 Sin)) (λ(k_3:Nat)=>(λ(s_8:Unit)=>[(0,(vL Alert.enc s_1)),(1,(.fn gid caps)),(7,(vI (s_1.length:Int))),(8,(vI (k_3:Int)))])) (λk x s=>aX f_2 k x s) o_11 s_1 () hj_12 rfl (mr _) ?_ ?_
 ·rintro ⟨k_3,l_4,s_8⟩ ⟨hL_10,hD_6⟩
  dsimp only at hL_10 hD_6
  cases l_4 with
  | nil =>
   obtain rfl:=ae hL_10
   refine ai (aa (vB (decide ((k_3:Int)<(s_1.length:Int)))) (af ?_))
   refine ak (aA rfl (drop_nil hD_6) (bn ?_))
   exact aW (s_8) rfl rfl (mr _)
  | cons x_5 l_4 =>
   obtain ⟨c_,hc_9,hL_10⟩:=bind_some hL_10
   refine ai (aa (vB (decide ((k_3:Int)<(s_1.length:Int)))) (af ?_))
   refine ak (aB rfl (bC hD_6) (ax ?_))
   unfold aX at hc_9
   refine ak (aN (ai (aa (vI (k_3:Int)) (aa (vI (k_3:Int)) (af (ai (aa (.fn gid caps) (aa (vL Alert.enc s_1) (aa (vI (k_3:Int)) (iV nM rfl rfl (bT hD_6) rfl wz (eP fo iW rfl (.d (.agg (Alert.enc x_5))) rfl wz ?_)))))))))))
   obtain ⟨r_13,hr_14,hc_9⟩:=bind_some hc_9
   refine tZ (hfn _ _ hr_14) rfl hbF rfl rfl hcapF hokF hsF hmF rfl wz rfl (af ?_)
   rcases aj hc_9 with⟨hc_15,hc_9⟩|⟨hc_15,hc_9⟩
   ·refine aB rfl hc_15 (ai (aa (vI (k_3:Int)) (aa (vI (k_3:Int)) (af ?_))))
    obtain rfl:=ae hc_9
    obtain rfl:=ae hL_10
    obtain rfl:=ae hF
    exact ay (Dk hsF (.inr rfl) [(vI (k_3:Int))] ⟨rfl,trivial⟩ rfl rfl rfl)
   ·refine aA rfl hc_15 (ax (au (fQ (bL hD_6 hn_7) wz rfl (aa (vI ((k_3+1:Nat):Int)) (af ?_)))))
    obtain rfl:=ae hc_9
    exact bg (k_3+1,l_4,()) ⟨hL_10,aS hD_6⟩ (ls_ _) rfl (mr _)
 ·rintro s_8 ho_ sl_ H_ hp_ hq_
  subst ho_
  refine aP _ hp_ hq_ (ai (aa (vI (-1)) (af ?_)))
  obtain rfl:=ae hF
  exact ay (Dk hsF (.inr rfl) [(vI (-1))] ⟨rfl,trivial⟩ rfl rfl rfl)
theorem yL {o_1:Alert} {p_2:ByteArray} {p_3:Alert} {r:Bool} (hF:jk o_1 p_2 p_3=some r) :
  FnM Tryz.prog 53 [(.d (.agg (Alert.enc o_1))),(.ref (av 0) 0 0),(.ref (av 1) 0 0)] [(.cells 1 [(vS p_2)]),(.cells 9 (Alert.v p_3))] (vB r) [some (.cells 1 [(vS p_2)]),some (.cells 9 (Alert.v p_3))]:=by
 refine FnM.of_wH ⟨Tryz.prog,22,[],[]⟩ rfl Tryz.func53 rfl rfl (lb_ rfl) (by kernel_rfl) ?_
 unfold jk at hF
 refine ai (gP 0 (.inl rfl) (Alert.v o_1) rfl rfl wz (λn_4=>aa (vB false) (af (ak ?_))))
 obtain ⟨v_5,h_6,hF⟩:=bind_some hF
 refine aO [(4,(vB v_5))] [((av 0),some (.cells 1 [(vS p_2)])),((av 1),some (.cells 9 (Alert.v p_3))),(n_4,some (.cells 9 (Alert.v o_1)))] ?_ ?_
 ·refine au (aH fw rfl 0 rfl wz (aG 0 2 il ft sz9 ag9 rfl rfl (vS o_1.Id) rfl wz (aG 0 0 il ft sz9 ag9 rfl rfl (vS p_2) rfl wz (aa (vB (sEq o_1.Id p_2)) ?_))))
  rcases aj h_6 with⟨hc_7,h_6⟩|⟨hc_7,h_6⟩
  ·refine aC rfl hc_7 wz (aH vz rfl 1 rfl wa (aG 0 2 il ft sz9 ag9 rfl rfl (vS o_1.Sender) rfl wa (aH vz rfl 1 rfl wa (aG 0 1 il ft sz9 ag9 rfl rfl (vS p_3.Sender) rfl wa (aI (vB (sEq o_1.Sender p_3.Sender)) wa rfl (aa (vB (sEq o_1.Sender p_3.Sender)) ?_))))))
   rcases aj h_6 with⟨hc_8,h_6⟩|⟨hc_8,h_6⟩
   ·refine aC rfl hc_8 wz (aG 0 2 il ft fo iW rfl rfl (.d (.agg (Alert.enc o_1))) rfl wa (aG 0 1 il ft fo iW rfl rfl (.d (.agg (Alert.enc p_3))) rfl wa ?_))
    obtain ⟨r_9,hr_10,h_6⟩:=bind_some h_6
    refine aF (qI hr_10) rfl hb52 rfl rfl rfl rfl wa (aI (vB (decide (r_9<0))) wa rfl (aa (vB (decide (r_9<0))) (aa (vB (decide (r_9<0))) (af ?_))))
    obtain rfl:=ae h_6
    exact cu
   ·refine aC rfl hc_8 wz (ah (ah (ah (ah (aa (vB false) (aa (vB false) (af ?_)))))))
    obtain rfl:=ae h_6
    exact cu
  ·refine aC rfl hc_7 wz (ah (ah (ah (ah (ah (aa (vB false) (aa (vB false) (ah (ah (ah (ah (aa (vB false) (aa (vB false) (af ?_))))))))))))))
   obtain rfl:=ae h_6
   exact cu
 ·rintro ⟨⟩ _ sl_ H_ hp_ hq_
  refine aP _ hp_ hq_ ?_
  obtain rfl:=ae hF
  exact ay (qM (.inr rfl) [(vB v_5)] _ [0,1] [av 0,av 1] ⟨rfl,trivial⟩ (.cons (fB rfl rfl) (.nil)) (by kernel_rfl) ⟨(by kernel_rfl),⟨(by kernel_rfl),trivial⟩⟩ (by decide) (by kernel_rfl))
theorem qm {l_1:(List Alert)} {a_2:Alert} {ref_3:ByteArray} {r:Int} (hF:kE l_1 a_2 ref_3=some r) :
  FnM Tryz.prog 28 [(vL Alert.enc l_1),(.d (.agg (Alert.enc a_2))),(vS ref_3)] [] (vI r) []:=by
 refine FnM.of_wH ⟨Tryz.prog,10,[],[]⟩ rfl Tryz.func28 rfl rfl (lb_ rfl) (by kernel_rfl) ?_
 unfold kE at hF
 refine ai (gP 0 (.inl rfl) (Alert.v a_2) rfl rfl wz (λn_4=>gP 0 (.inl rfl) [(vS ref_3)] rfl rfl wz (λn_5=>aa (vI 0) (af (ai (aa (vL Alert.enc l_1) (aa (.fn 53 [(.ref n_5 0 0),(.ref n_4 0 0)]) ?_)))))))
 obtain ⟨r_6,hr_7,hF⟩:=bind_some hF
 refine aV 0 [1,0] il ft (dJ (gid:=53) (caps:=[.ref (av 0) 0 0,.ref (av 1) 0 0]) (Sin:=[(.cells 1 [(vS ref_3)]),(.cells 9 (Alert.v a_2))]) (λ_ _ h_=>yL h_) hb53 ⟨rfl,rfl⟩ (by kernel_rfl) (vo (by kernel_rfl)) (rD (by kernel_rfl)) hr_7) rfl hb26 rfl (by kernel_rfl) (by kernel_rfl) (by kernel_rfl) (by kernel_rfl) (by kernel_rfl) (by kernel_rfl) (by kernel_rfl) (by decide) (by kernel_rfl) wz (vI r_6) (by kernel_rfl) ([(n_4,some (.cells 9 (Alert.v a_2))),(n_5,some (.cells 1 [(vS ref_3)]))]:Hp) (by kernel_rfl) (aa (vI r_6) (af ?_))
 obtain rfl:=ae hF
 exact ay (aM [(vI r_6)] ⟨rfl,trivial⟩)
end Go.Proofs.YtekmkepojbhafaeGreatDoor.Law

