/-
 The machine computes these plain functions (written by a program of ours).
-/
import Derived.Test.YtdenjndllgahgaaGreatDoorFacts
import Derived.Test.YtdenjndllgahgaaGreatDoorDefs
import Derived.Test.YtdenjndllgahgaaGreatDoorPf1
import Derived.Test.YtdenjndllgahgaaGreatDoorShelf
open Go Go.Eng Go.Proofs
namespace Go.Proofs.YtdenjndllgahgaaGreatDoor.Law
set_option maxRecDepth 100000
set_option linter.unusedVariables false
set_option maxHeartbeats 1000000
theorem rC {s_1:Stream} {most_2:Int} {r:(List Log_)×Stream} (hF:jl s_1 most_2=some r) :
  FnM Tryz.prog 8 [(.ref (au 0) 0 0),(vI most_2)] [(.cells 2 [(vL eI s_1.L),(vI s_1.f_at)])] (gV (au 1) 6 r.1) (([(.cells 2 [(vL eI r.2.L),(vI r.2.f_at)])]:List Box).map some++gO 6 Log_.enc r.1):=by
 refine FnM.of_wH ⟨Tryz.prog,100,[],[]⟩ rfl Tryz.func8 rfl rfl (lb_ rfl) (by kernel_rfl) ?_
 unfold jl at hF
 refine af (aa (ae .nil wz rfl (ai (af (aa (ae (.ref (au 0) 0 0) wz rfl (ae (vI most_2) wz rfl ?_)))))))
 obtain ⟨r_3,hr_4,hF⟩:=bind_some hF
 refine vP [0] (nD hr_4) rfl hb57 rfl (by kernel_rfl) (by kernel_rfl) (by kernel_rfl) (by kernel_rfl) (by kernel_rfl) rfl (by decide) (by kernel_rfl) wz ([((au 0),some (.cells 2 [(vL eI r_3.2.L),(vI r_3.2.f_at)]))]:Hp) (λ_=>by kernel_rfl) (λn_6=>ae (gV n_6 6 r_3.1) wz rfl (ai (af (af ?_))))
 obtain ⟨v_7,h_8,hF⟩:=bind_some hF
 refine aG (β:=Unit) (λ_=>([(0,(.ref (au 0) 0 0)),(5,(gV n_6 6 r_3.1)),(17,(vB v_7.1))]:SL_)) (λ_=>([((au 0),some (.cells 2 [(vL eI v_7.2.1),(vI v_7.2.2)])),(n_6,gB 6 Log_.enc r_3.1)]:Hp)) (λ_=>True) ?_ ?_
 ·refine aa (ae (gV n_6 6 r_3.1) wz rfl (ni tu rfl wz (ae (vB (decide ((r_3.1.length:Int)>0))) wz rfl ?_)))
  rcases ak h_8 with⟨hc_9,h_8⟩|⟨hc_9,h_8⟩
  ·refine aC rfl hc_9 wz (ae (.ref (au 0) 0 0) wa rfl ?_)
   obtain ⟨r_10,hr_11,h_8⟩:=bind_some h_8
   refine bn 0 [0] il ft (fF hr_11) rfl ET rfl (by kernel_rfl) (by kernel_rfl) (by kernel_rfl) (by kernel_rfl) (by kernel_rfl) (by kernel_rfl) (by kernel_rfl) (by decide) (by kernel_rfl) wa (vB r_10.1) (by kernel_rfl) ([((au 0),some (.cells 2 [(vL eI r_10.2.L),(vI r_10.2.f_at)])),(n_6,gB 6 Log_.enc r_3.1)]:Hp) (by kernel_rfl) (ae (vB r_10.1) wz rfl (ai ?_))
   obtain rfl:=ah h_8
   exact cu
  ·refine aC rfl hc_9 wz (aj wa (aj wa (ae (vB false) wz rfl (ai ?_))))
   obtain rfl:=ah h_8
   exact cu
 ·rintro ⟨⟩ _ sl_ H_ hp_ hq_
  refine aQ _ hp_ hq_ ?_
  obtain ⟨v_13,h_14,hF⟩:=bind_some hF
  refine aG (β:=Unit) (λ_=>([(0,(.ref (au 0) 0 0)),(5,(gV n_6 6 v_13.1))]:SL_)) (λ_=>([((au 0),some (.cells 2 [(vL eI v_13.2.1),(vI v_13.2.2)])),(n_6,gB 6 Log_.enc v_13.1)]:Hp)) (λ_=>True) ?_ ?_
  ·rcases ak h_14 with⟨hc_15,h_14⟩|⟨hc_15,h_14⟩
   ·refine ay rfl hc_15 (af (aa (ae (gV n_6 6 r_3.1) wz rfl (ae (.ref (au 0) 0 0) wz rfl (ae (gV n_6 6 r_3.1) wz rfl (ni tu rfl wz ?_))))))
    obtain ⟨r_16,hr_17,h_14⟩:=bind_some h_14
    refine bn 0 [0] il ft (dQ hr_17) rfl AV rfl (by kernel_rfl) (by kernel_rfl) (by kernel_rfl) (by kernel_rfl) (by kernel_rfl) (by kernel_rfl) (by kernel_rfl) (by decide) (by kernel_rfl) wz (vI r_16.1) (by kernel_rfl) ([((au 0),some (.cells 2 [(vL eI r_16.2.L),(vI r_16.2.f_at)])),(n_6,gB 6 Log_.enc r_3.1)]:Hp) (by kernel_rfl) ?_
    obtain ⟨_,hi_19,h_14⟩:=bind_some h_14
    refine qV nU rfl rfl (jA hi_19) (gu hi_19) wz (ae (.ref n_6 (0+(r_16.1).toNat) 0) wz rfl (ai (bK (ae (.ref n_6 (0+(r_16.1).toNat) 0) wz rfl (ae (.ref n_6 (0+(r_16.1).toNat) 0) wz rfl (ae (.ref (au 0) 0 0) wz rfl (fw (([(⟨#[105,97]⟩:ByteArray),(⟨#[105,99]⟩:ByteArray)]:List ByteArray).map eS) uz yo rfl rfl rfl rfl rfl wz ?_)))))))
    obtain ⟨r_20,hr_21,h_14⟩:=bind_some h_14
    refine bn 4 [0] (.inr (by kernel_rfl)) (λ_ _ ag=>by exact trivial) (eT hr_21) rfl Cr rfl (by kernel_rfl) (by kernel_rfl) (by kernel_rfl) (by kernel_rfl) (by kernel_rfl) (by kernel_rfl) (by kernel_rfl) (by decide) (by kernel_rfl) wz (vS r_20.1) (by kernel_rfl) ([((au 0),some (.cells 2 [(vL eI r_20.2.L),(vI r_20.2.f_at)])),(n_6,gB 6 Log_.enc r_3.1)]:Hp) (by kernel_rfl) (ae (.ref (au 0) 0 0) wz rfl (ae (.ref n_6 (0+(r_16.1).toNat) 0) wz rfl (ae (.ref n_6 (0+(r_16.1).toNat) 0) wz rfl (aJ rE rfl 5 rfl wz ?_))))
    obtain ⟨e_23,hy_24,h_14⟩:=bind_some h_14
    refine jD 9 1 (.inr (by kernel_rfl)) (λ_ _ ag=>⟨.inr (.inl (dis1 (ag_ne ag (i:=1) (j:=0) rfl rfl (by decide)))),trivial⟩) sz9 ag9 rfl rfl hy_24 (vS e_23.Sum) rfl wz ?_
    obtain ⟨r_25,hr_26,h_14⟩:=bind_some h_14
    refine aH (uS hr_26) rfl hb18 rfl rfl rfl rfl wz (fw (([e_23.Sum,r_25]:List ByteArray).map eS) uz yo rfl rfl rfl rfl rfl wz ?_)
    obtain ⟨r_27,hr_28,h_14⟩:=bind_some h_14
    refine bn 12 [0] (.inr (by kernel_rfl)) (λ_ _ ag=>by exact⟨.inr (.inr (by kernel_rfl)),⟨.inr (.inr (by kernel_rfl)),trivial⟩⟩) (eT hr_28) rfl Cr rfl (by kernel_rfl) (by kernel_rfl) (by kernel_rfl) (by kernel_rfl) (by kernel_rfl) (by kernel_rfl) (by kernel_rfl) (by decide) (by kernel_rfl) wz (vS r_27.1) (by kernel_rfl) ([((au 0),some (.cells 2 [(vL eI r_27.2.L),(vI r_27.2.f_at)])),(n_6,gB 6 Log_.enc r_3.1)]:Hp) (by kernel_rfl) (ae (.ref n_6 (0+(r_16.1).toNat) 0) wz rfl (aJ rq rfl 1 rfl wz ?_))
    obtain ⟨e_30,hy_31,h_14⟩:=bind_some h_14
    refine je 15 (.inr (by kernel_rfl)) (λ_ _ ag=>⟨.inr (.inr (by kernel_rfl)),⟨.inr (.inr (by kernel_rfl)),⟨.inr (.inr (by kernel_rfl)),trivial⟩⟩⟩) 1 sz9 rfl rfl hy_31 (⟨e_30.Player,r_20.1,e_30.No,e_30.Clock,e_30.Long,e_30.Sum⟩:Log_) rfl wz (bM (v':=(gV n_6 6 (r_3.1.set (0+(r_16.1).toNat) (⟨e_30.Player,r_20.1,e_30.No,e_30.Clock,e_30.Long,e_30.Sum⟩:Log_)))) 5 rfl (bH (by simp)) (bM (v':=(gV n_6 6 (r_3.1.set (0+(r_16.1).toNat) (⟨e_30.Player,r_20.1,e_30.No,e_30.Clock,e_30.Long,e_30.Sum⟩:Log_)))) 18 rfl (bH (by simp)) (bM (v':=(gV n_6 6 (r_3.1.set (0+(r_16.1).toNat) (⟨e_30.Player,r_20.1,e_30.No,e_30.Clock,e_30.Long,e_30.Sum⟩:Log_)))) 20 rfl (bH (by simp)) (ae (.ref n_6 (0+(r_16.1).toNat) 0) wz rfl (aJ rE rfl 5 rfl wz ?_)))))
    obtain ⟨e_32,hy_33,h_14⟩:=bind_some h_14
    refine je 18 (.inr (by kernel_rfl)) (λ_ _ ag=>⟨.inr (.inr (by kernel_rfl)),⟨.inr (.inr (by kernel_rfl)),⟨.inr (.inr (by kernel_rfl)),⟨.inr (.inr (by kernel_rfl)),trivial⟩⟩⟩⟩) 1 sz9 rfl rfl hy_33 (⟨e_32.Player,e_32.Item,e_32.No,e_32.Clock,e_32.Long,r_27.1⟩:Log_) rfl wz (bM (v':=(gV n_6 6 ((r_3.1.set (0+(r_16.1).toNat) (⟨e_30.Player,r_20.1,e_30.No,e_30.Clock,e_30.Long,e_30.Sum⟩:Log_)).set (0+(r_16.1).toNat) (⟨e_32.Player,e_32.Item,e_32.No,e_32.Clock,e_32.Long,r_27.1⟩:Log_)))) 5 rfl (bH (by simp)) (bM (v':=(gV n_6 6 ((r_3.1.set (0+(r_16.1).toNat) (⟨e_30.Player,r_20.1,e_30.No,e_30.Clock,e_30.Long,e_30.Sum⟩:Log_)).set (0+(r_16.1).toNat) (⟨e_32.Player,e_32.Item,e_32.No,e_32.Clock,e_32.Long,r_27.1⟩:Log_)))) 18 rfl (bH (by simp)) (bM (v':=(gV n_6 6 ((r_3.1.set (0+(r_16.1).toNat) (⟨e_30.Player,r_20.1,e_30.No,e_30.Clock,e_30.Long,e_30.Sum⟩:Log_)).set (0+(r_16.1).toNat) (⟨e_32.Player,e_32.Item,e_32.No,e_32.Clock,e_32.Long,r_27.1⟩:Log_)))) 20 rfl (bH (by simp)) (ai ?_))))
    obtain rfl:=ah h_14
    exact cu
   ·refine aA rfl hc_15 (av ?_)
    obtain rfl:=ah h_14
    exact cu
  ·rintro ⟨⟩ _ sl_ H_ hp_ hq_
   refine aQ _ hp_ hq_ (af (af ?_))
   obtain ⟨v_34,h_35,hF⟩:=bind_some hF
   refine aG (β:=Unit) (λ_=>([(0,(.ref (au 0) 0 0)),(5,(gV n_6 6 v_13.1)),(47,(vB v_34.1))]:SL_)) (λ_=>([((au 0),some (.cells 2 [(vL eI v_34.2.1),(vI v_34.2.2)])),(n_6,gB 6 Log_.enc v_13.1)]:Hp)) (λ_=>True) ?_ ?_
   ·refine aa (ae (gV n_6 6 v_13.1) wz rfl (ni tu rfl wz (ae (vB (decide ((v_13.1.length:Int)>0))) wz rfl ?_)))
    rcases ak h_35 with⟨hc_36,h_35⟩|⟨hc_36,h_35⟩
    ·refine aC rfl hc_36 wz (ae (.ref (au 0) 0 0) wa rfl ?_)
     obtain ⟨r_37,hr_38,h_35⟩:=bind_some h_35
     refine bn 0 [0] il ft (fF hr_38) rfl ET rfl (by kernel_rfl) (by kernel_rfl) (by kernel_rfl) (by kernel_rfl) (by kernel_rfl) (by kernel_rfl) (by kernel_rfl) (by decide) (by kernel_rfl) wa (vB r_37.1) (by kernel_rfl) ([((au 0),some (.cells 2 [(vL eI r_37.2.L),(vI r_37.2.f_at)])),(n_6,gB 6 Log_.enc v_13.1)]:Hp) (by kernel_rfl) (ae (vB r_37.1) wz rfl (ai ?_))
     obtain rfl:=ah h_35
     exact cu
    ·refine aC rfl hc_36 wz (aj wa (aj wa (ae (vB false) wz rfl (ai ?_))))
     obtain rfl:=ah h_35
     exact cu
   ·rintro ⟨⟩ _ sl_ H_ hp_ hq_
    refine aQ _ hp_ hq_ ?_
    obtain ⟨v_40,h_41,hF⟩:=bind_some hF
    refine aG (β:=Unit) (λ_=>([(5,(gV n_6 6 v_40.1))]:SL_)) (λ_=>([((au 0),some (.cells 2 [(vL eI v_40.2.1),(vI v_40.2.2)])),(n_6,gB 6 Log_.enc v_40.1)]:Hp)) (λ_=>True) ?_ ?_
    ·rcases ak h_41 with⟨hc_42,h_41⟩|⟨hc_42,h_41⟩
     ·refine ay rfl hc_42 (af (aa (ae (gV n_6 6 v_13.1) wz rfl (ae (.ref (au 0) 0 0) wz rfl (ae (gV n_6 6 v_13.1) wz rfl (ni tu rfl wz ?_))))))
      obtain ⟨r_43,hr_44,h_41⟩:=bind_some h_41
      refine bn 0 [0] il ft (dQ hr_44) rfl AV rfl (by kernel_rfl) (by kernel_rfl) (by kernel_rfl) (by kernel_rfl) (by kernel_rfl) (by kernel_rfl) (by kernel_rfl) (by decide) (by kernel_rfl) wz (vI r_43.1) (by kernel_rfl) ([((au 0),some (.cells 2 [(vL eI r_43.2.L),(vI r_43.2.f_at)])),(n_6,gB 6 Log_.enc v_13.1)]:Hp) (by kernel_rfl) ?_
      obtain ⟨_,hi_46,h_41⟩:=bind_some h_41
      refine qV nU rfl rfl (jA hi_46) (gu hi_46) wz (ae (.ref n_6 (0+(r_43.1).toNat) 0) wz rfl (ai (af (aa (ae (.ref (au 0) 0 0) wz rfl ?_)))))
      obtain ⟨r_47,hr_48,h_41⟩:=bind_some h_41
      refine bn 0 [0] il ft (dQ hr_48) rfl AV rfl (by kernel_rfl) (by kernel_rfl) (by kernel_rfl) (by kernel_rfl) (by kernel_rfl) (by kernel_rfl) (by kernel_rfl) (by decide) (by kernel_rfl) wz (vI r_47.1) (by kernel_rfl) ([((au 0),some (.cells 2 [(vL eI r_47.2.L),(vI r_47.2.f_at)])),(n_6,gB 6 Log_.enc v_13.1)]:Hp) (by kernel_rfl) (ai (ax (af (aa (ae (vB (r_47.1==0)) wz rfl (ae (vB (r_47.1==0)) wz rfl (ai ?_)))))))
      rcases ak h_41 with⟨hc_50,h_41⟩|⟨hc_50,h_41⟩
      ·refine ay rfl hc_50 (aa (ae (.ref n_6 (0+(r_43.1).toNat) 0) wz rfl (ae (.ref n_6 (0+(r_43.1).toNat) 0) wz rfl (ae (.ref (au 0) 0 0) wz rfl (ae (.ref n_6 (0+(r_43.1).toNat) 0) wz rfl (ae (.ref n_6 (0+(r_43.1).toNat) 0) wz rfl (aJ iJ rfl 0 rfl wz ?_)))))))
       obtain ⟨e_51,hy_52,h_41⟩:=bind_some h_41
       refine jD 0 1 il ft sz9 ag9 rfl rfl hy_52 (vS e_51.Player) rfl wz (fw (([e_51.Player,(⟨#[]⟩:ByteArray),(⟨#[65]⟩:ByteArray)]:List ByteArray).map eS) uz yo rfl rfl rfl rfl rfl wz ?_)
       obtain ⟨r_53,hr_54,h_41⟩:=bind_some h_41
       refine bn 0 [0] il ft (eT hr_54) rfl Cr rfl (by kernel_rfl) (by kernel_rfl) (by kernel_rfl) (by kernel_rfl) (by kernel_rfl) (by kernel_rfl) (by kernel_rfl) (by decide) (by kernel_rfl) wz (vS r_53.1) (by kernel_rfl) ([((au 0),some (.cells 2 [(vL eI r_53.2.L),(vI r_53.2.f_at)])),(n_6,gB 6 Log_.enc v_13.1)]:Hp) (by kernel_rfl) (ae (.ref (au 0) 0 0) wz rfl (fw (([(⟨#[105,97]⟩:ByteArray),(⟨#[]⟩:ByteArray)]:List ByteArray).map eS) uz yo rfl rfl rfl rfl rfl wz ?_))
       obtain ⟨r_56,hr_57,h_41⟩:=bind_some h_41
       refine bn 0 [0] il ft (eT hr_57) rfl Cr rfl (by kernel_rfl) (by kernel_rfl) (by kernel_rfl) (by kernel_rfl) (by kernel_rfl) (by kernel_rfl) (by kernel_rfl) (by decide) (by kernel_rfl) wz (vS r_56.1) (by kernel_rfl) ([((au 0),some (.cells 2 [(vL eI r_56.2.L),(vI r_56.2.f_at)])),(n_6,gB 6 Log_.enc v_13.1)]:Hp) (by kernel_rfl) (ae (.ref n_6 (0+(r_43.1).toNat) 0) wz rfl (aJ iJ rfl 0 rfl wz ?_))
       obtain ⟨e_59,hy_60,h_41⟩:=bind_some h_41
       refine je 0 il ft 1 sz9 rfl rfl hy_60 (⟨r_53.1,e_59.Item,e_59.No,e_59.Clock,e_59.Long,e_59.Sum⟩:Log_) rfl wz (bM (v':=(gV n_6 6 (v_13.1.set (0+(r_43.1).toNat) (⟨r_53.1,e_59.Item,e_59.No,e_59.Clock,e_59.Long,e_59.Sum⟩:Log_)))) 5 rfl (bH (by simp)) (bM (v':=(gV n_6 6 (v_13.1.set (0+(r_43.1).toNat) (⟨r_53.1,e_59.Item,e_59.No,e_59.Clock,e_59.Long,e_59.Sum⟩:Log_)))) 48 rfl (bH (by simp)) (bM (v':=(gV n_6 6 (v_13.1.set (0+(r_43.1).toNat) (⟨r_53.1,e_59.Item,e_59.No,e_59.Clock,e_59.Long,e_59.Sum⟩:Log_)))) 50 rfl (bH (by simp)) (ae (.ref n_6 (0+(r_43.1).toNat) 0) wz rfl (aJ rq rfl 1 rfl wz ?_)))))
       obtain ⟨e_61,hy_62,h_41⟩:=bind_some h_41
       refine je 0 il ft 1 sz9 rfl rfl hy_62 (⟨e_61.Player,r_56.1,e_61.No,e_61.Clock,e_61.Long,e_61.Sum⟩:Log_) rfl wz (bM (v':=(gV n_6 6 ((v_13.1.set (0+(r_43.1).toNat) (⟨r_53.1,e_59.Item,e_59.No,e_59.Clock,e_59.Long,e_59.Sum⟩:Log_)).set (0+(r_43.1).toNat) (⟨e_61.Player,r_56.1,e_61.No,e_61.Clock,e_61.Long,e_61.Sum⟩:Log_)))) 5 rfl (bH (by simp)) (bM (v':=(gV n_6 6 ((v_13.1.set (0+(r_43.1).toNat) (⟨r_53.1,e_59.Item,e_59.No,e_59.Clock,e_59.Long,e_59.Sum⟩:Log_)).set (0+(r_43.1).toNat) (⟨e_61.Player,r_56.1,e_61.No,e_61.Clock,e_61.Long,e_61.Sum⟩:Log_)))) 48 rfl (bH (by simp)) (bM (v':=(gV n_6 6 ((v_13.1.set (0+(r_43.1).toNat) (⟨r_53.1,e_59.Item,e_59.No,e_59.Clock,e_59.Long,e_59.Sum⟩:Log_)).set (0+(r_43.1).toNat) (⟨e_61.Player,r_56.1,e_61.No,e_61.Clock,e_61.Long,e_61.Sum⟩:Log_)))) 50 rfl (bH (by simp)) (ai ?_))))
       obtain rfl:=ah h_41
       exact cu
      ·refine aA rfl hc_50 (af (aa (ae (vB (r_47.1==1)) wz rfl (ae (vB (r_47.1==1)) wz rfl (ai ?_)))))
       rcases ak h_41 with⟨hc_63,h_41⟩|⟨hc_63,h_41⟩
       ·refine ay rfl hc_63 (aa (ae (.ref n_6 (0+(r_43.1).toNat) 0) wz rfl (ae (.ref (au 0) 0 0) wz rfl ?_)))
        obtain ⟨r_64,hr_65,h_41⟩:=bind_some h_41
        refine bn 0 [0] il ft (iq hr_65) rfl GG rfl (by kernel_rfl) (by kernel_rfl) (by kernel_rfl) (by kernel_rfl) (by kernel_rfl) (by kernel_rfl) (by kernel_rfl) (by decide) (by kernel_rfl) wz (vI r_64.1) (by kernel_rfl) ([((au 0),some (.cells 2 [(vL eI r_64.2.L),(vI r_64.2.f_at)])),(n_6,gB 6 Log_.enc v_13.1)]:Hp) (by kernel_rfl) (ae (.ref n_6 (0+(r_43.1).toNat) 0) wz rfl (aJ pO rfl 2 rfl wz ?_))
        obtain ⟨e_67,hy_68,h_41⟩:=bind_some h_41
        refine je 0 il ft 1 sz3 rfl rfl hy_68 (⟨e_67.Player,e_67.Item,r_64.1,e_67.Clock,e_67.Long,e_67.Sum⟩:Log_) rfl wz (bM (v':=(gV n_6 6 (v_13.1.set (0+(r_43.1).toNat) (⟨e_67.Player,e_67.Item,r_64.1,e_67.Clock,e_67.Long,e_67.Sum⟩:Log_)))) 5 rfl (bH (by simp)) (bM (v':=(gV n_6 6 (v_13.1.set (0+(r_43.1).toNat) (⟨e_67.Player,e_67.Item,r_64.1,e_67.Clock,e_67.Long,e_67.Sum⟩:Log_)))) 48 rfl (bH (by simp)) (bM (v':=(gV n_6 6 (v_13.1.set (0+(r_43.1).toNat) (⟨e_67.Player,e_67.Item,r_64.1,e_67.Clock,e_67.Long,e_67.Sum⟩:Log_)))) 50 rfl (bH (by simp)) (ai ?_))))
        obtain rfl:=ah h_41
        exact cu
       ·refine aA rfl hc_63 (af (aa (ae (vB (r_47.1==2)) wz rfl (ae (vB (r_47.1==2)) wz rfl (ai ?_)))))
        rcases ak h_41 with⟨hc_69,h_41⟩|⟨hc_69,h_41⟩
        ·refine ay rfl hc_69 (aa (ae (.ref n_6 (0+(r_43.1).toNat) 0) wz rfl (ae (.ref n_6 (0+(r_43.1).toNat) 0) wz rfl (ae (.ref (au 0) 0 0) wz rfl ?_))))
         obtain ⟨r_70,hr_71,h_41⟩:=bind_some h_41
         refine bn 0 [0] il ft (iq hr_71) rfl GG rfl (by kernel_rfl) (by kernel_rfl) (by kernel_rfl) (by kernel_rfl) (by kernel_rfl) (by kernel_rfl) (by kernel_rfl) (by decide) (by kernel_rfl) wz (vI r_70.1) (by kernel_rfl) ([((au 0),some (.cells 2 [(vL eI r_70.2.L),(vI r_70.2.f_at)])),(n_6,gB 6 Log_.enc v_13.1)]:Hp) (by kernel_rfl) (ae (.ref (au 0) 0 0) wz rfl ?_)
         obtain ⟨r_73,hr_74,h_41⟩:=bind_some h_41
         refine bn 0 [0] il ft (iq hr_74) rfl GG rfl (by kernel_rfl) (by kernel_rfl) (by kernel_rfl) (by kernel_rfl) (by kernel_rfl) (by kernel_rfl) (by kernel_rfl) (by decide) (by kernel_rfl) wz (vI r_73.1) (by kernel_rfl) ([((au 0),some (.cells 2 [(vL eI r_73.2.L),(vI r_73.2.f_at)])),(n_6,gB 6 Log_.enc v_13.1)]:Hp) (by kernel_rfl) (ae (.ref n_6 (0+(r_43.1).toNat) 0) wz rfl (aJ ou rfl 3 rfl wz ?_))
         obtain ⟨e_76,hy_77,h_41⟩:=bind_some h_41
         refine je 0 il ft 1 sz3 rfl rfl hy_77 (⟨e_76.Player,e_76.Item,e_76.No,r_70.1,e_76.Long,e_76.Sum⟩:Log_) rfl wz (bM (v':=(gV n_6 6 (v_13.1.set (0+(r_43.1).toNat) (⟨e_76.Player,e_76.Item,e_76.No,r_70.1,e_76.Long,e_76.Sum⟩:Log_)))) 5 rfl (bH (by simp)) (bM (v':=(gV n_6 6 (v_13.1.set (0+(r_43.1).toNat) (⟨e_76.Player,e_76.Item,e_76.No,r_70.1,e_76.Long,e_76.Sum⟩:Log_)))) 48 rfl (bH (by simp)) (bM (v':=(gV n_6 6 (v_13.1.set (0+(r_43.1).toNat) (⟨e_76.Player,e_76.Item,e_76.No,r_70.1,e_76.Long,e_76.Sum⟩:Log_)))) 50 rfl (bH (by simp)) (ae (.ref n_6 (0+(r_43.1).toNat) 0) wz rfl (aJ sV rfl 4 rfl wz ?_)))))
         obtain ⟨e_78,hy_79,h_41⟩:=bind_some h_41
         refine je 0 il ft 1 sz3 rfl rfl hy_79 (⟨e_78.Player,e_78.Item,e_78.No,e_78.Clock,r_73.1,e_78.Sum⟩:Log_) rfl wz (bM (v':=(gV n_6 6 ((v_13.1.set (0+(r_43.1).toNat) (⟨e_76.Player,e_76.Item,e_76.No,r_70.1,e_76.Long,e_76.Sum⟩:Log_)).set (0+(r_43.1).toNat) (⟨e_78.Player,e_78.Item,e_78.No,e_78.Clock,r_73.1,e_78.Sum⟩:Log_)))) 5 rfl (bH (by simp)) (bM (v':=(gV n_6 6 ((v_13.1.set (0+(r_43.1).toNat) (⟨e_76.Player,e_76.Item,e_76.No,r_70.1,e_76.Long,e_76.Sum⟩:Log_)).set (0+(r_43.1).toNat) (⟨e_78.Player,e_78.Item,e_78.No,e_78.Clock,r_73.1,e_78.Sum⟩:Log_)))) 48 rfl (bH (by simp)) (bM (v':=(gV n_6 6 ((v_13.1.set (0+(r_43.1).toNat) (⟨e_76.Player,e_76.Item,e_76.No,r_70.1,e_76.Long,e_76.Sum⟩:Log_)).set (0+(r_43.1).toNat) (⟨e_78.Player,e_78.Item,e_78.No,e_78.Clock,r_73.1,e_78.Sum⟩:Log_)))) 50 rfl (bH (by simp)) (ai ?_))))
         obtain rfl:=ah h_41
         exact cu
        ·refine aA rfl hc_69 (aa (ae (.ref n_6 (0+(r_43.1).toNat) 0) wz rfl (ae (.ref (au 0) 0 0) wz rfl (fw (([(⟨#[]⟩:ByteArray),(⟨#[120]⟩:ByteArray),(⟨#[48,49,50,51,52,53,54,55,56,57,65,66,67,68,69,70]⟩:ByteArray),(⟨#[48,49,50,51,52,53,54,55,56,57,97,98,99,100,101]⟩:ByteArray)]:List ByteArray).map eS) uz yo rfl rfl rfl rfl rfl wz ?_))))
         obtain ⟨r_80,hr_81,h_41⟩:=bind_some h_41
         refine bn 0 [0] il ft (eT hr_81) rfl Cr rfl (by kernel_rfl) (by kernel_rfl) (by kernel_rfl) (by kernel_rfl) (by kernel_rfl) (by kernel_rfl) (by kernel_rfl) (by decide) (by kernel_rfl) wz (vS r_80.1) (by kernel_rfl) ([((au 0),some (.cells 2 [(vL eI r_80.2.L),(vI r_80.2.f_at)])),(n_6,gB 6 Log_.enc v_13.1)]:Hp) (by kernel_rfl) (ae (.ref n_6 (0+(r_43.1).toNat) 0) wz rfl (aJ rE rfl 5 rfl wz ?_))
         obtain ⟨e_83,hy_84,h_41⟩:=bind_some h_41
         refine je 0 il ft 1 sz9 rfl rfl hy_84 (⟨e_83.Player,e_83.Item,e_83.No,e_83.Clock,e_83.Long,r_80.1⟩:Log_) rfl wz (bM (v':=(gV n_6 6 (v_13.1.set (0+(r_43.1).toNat) (⟨e_83.Player,e_83.Item,e_83.No,e_83.Clock,e_83.Long,r_80.1⟩:Log_)))) 5 rfl (bH (by simp)) (bM (v':=(gV n_6 6 (v_13.1.set (0+(r_43.1).toNat) (⟨e_83.Player,e_83.Item,e_83.No,e_83.Clock,e_83.Long,r_80.1⟩:Log_)))) 48 rfl (bH (by simp)) (bM (v':=(gV n_6 6 (v_13.1.set (0+(r_43.1).toNat) (⟨e_83.Player,e_83.Item,e_83.No,e_83.Clock,e_83.Long,r_80.1⟩:Log_)))) 50 rfl (bH (by simp)) (ai ?_))))
         obtain rfl:=ah h_41
         exact cu
     ·refine aA rfl hc_42 (av ?_)
      obtain rfl:=ah h_41
      exact cu
    ·rintro ⟨⟩ _ sl_ H_ hp_ hq_
     refine aQ _ hp_ hq_ (af (aa (ae (gV n_6 6 v_40.1) wz rfl (ae (gV n_6 6 v_40.1) wz rfl (ai ?_)))))
     obtain rfl:=ah hF
     exact aB (Fa (outs:=([(.cells 2 [(vL eI v_40.2.1),(vI v_40.2.2)])]:List Box)) (.inr rfl) 1 rfl rfl rfl (by kernel_rfl) (by kernel_rfl))
theorem lV {s_1:ByteArray} {r:Bool} (hF:jZ s_1=some r) :
  FnM Tryz.prog 119 [(vS s_1)] [] (vB r) []:=by
 refine FnM.of_wH ⟨Tryz.prog,48,[],[]⟩ rfl Tryz.func119 rfl rfl (lb_ rfl) (by kernel_rfl) ?_
 unfold jZ at hF
 refine af (aa (ae (vB false) wz rfl (ai (af (af (aa (ae (vI 0) wz rfl (ai ?_))))))))
 obtain ⟨o_10,hj_11,hF⟩:=bind_some hF
 obtain ⟨nq_33,hj_11⟩:=dM hj_11
 refine aG (β:=(Int)) (λ(s_7:Int)=>([(0,(vS s_1))]:SL_)) (λ(s_7:Int)=>([]:Hp)) (λp=>o_10 = .go p) ?_ ?_
 ·refine ax (bA (β:=Nat×(Int)) (λp=>(λ(k_2:Nat) (s_7:Int)=>([(0,(vS s_1)),(3,(vI s_7))]:SL_)) p.1 p.2) (λp=>(λ(k_2:Nat) (s_7:Int)=>([]:Hp)) p.1 p.2) (λp=>bL (λs=>iG s_1 s) p.1 p.2=some o_10) (λp=>p.1) (nq_33,0) hj_11 rfl (aL rfl) ?_)
  rintro ⟨k_2,s_7⟩ hL_9
  dsimp only at hL_9
  cases k_2 with
  | zero=>cases hL_9
  | succ k_2 =>
   obtain ⟨c_,hc_8,hL_9⟩:=bind_some hL_9
   unfold iG at hc_8
   refine af (af (aa (ae (vI s_7) wz rfl (ae (vS s_1) wz rfl (tQ un9 rfl wz (ae (vB (decide (s_7<(s_1.size:Int)))) wz rfl (ai ?_)))))))
   rcases ak hc_8 with⟨hc_12,hc_8⟩|⟨hc_12,hc_8⟩
   ·refine ay rfl hc_12 (av (af (ax (af (aa (ae (vS s_1) wz rfl (ae (vI s_7) wz rfl ?_)))))))
    obtain ⟨b_13,hy_14,hc_8⟩:=bind_some hc_8
    refine Fz un9 rfl rfl hy_14 wz (ae (.d (.int .u8 (b_13.toNat:Int))) wz rfl (ai (af ?_)))
    obtain ⟨v_15,h_16,hc_8⟩:=bind_some hc_8
    refine aG (β:=Unit) (λ_=>([(0,(vS s_1)),(3,(vI s_7)),(40,(vB v_15))]:SL_)) (λ_=>([]:Hp)) (λ_=>True) ?_ ?_
    ·refine aa (ae (.d (.int .u8 (b_13.toNat:Int))) wz rfl (ae (vB (decide ((b_13.toNat:Int)>=97))) wz rfl ?_))
     rcases ak h_16 with⟨hc_17,h_16⟩|⟨hc_17,h_16⟩
     ·refine aC rfl hc_17 wz (ae (.d (.int .u8 (b_13.toNat:Int))) wa rfl (ae (vB (decide ((b_13.toNat:Int)<=122))) wa rfl (ae (vB (decide ((b_13.toNat:Int)<=122))) wz rfl ?_)))
      rcases ak h_16 with⟨hc_18,h_16⟩|⟨hc_18,h_16⟩
      ·refine aC rfl hc_18 wz (aj wa (aj wa (aj wa (aj (wn rfl rfl) (aj (wn rfl rfl) (aj (wn rfl rfl) (aj (wn rfl rfl) (aj (wn rfl rfl) (aj (wn rfl rfl) (aj (wn rfl rfl) (aj (wn rfl rfl) (aj (wn rfl rfl) (aj (wn rfl rfl) (aj (wn rfl rfl) (aj (wn rfl rfl) (aj (wn rfl rfl) (aj (wn rfl rfl) (aj wa (ae (vB true) wz rfl (ae (vB false) wz rfl (ai ?_)))))))))))))))))))))
       obtain rfl:=ah h_16
       exact cu
      ·refine aC rfl hc_18 wz (ae (vI s_7) wa rfl (ae (vB (decide (s_7>0))) wa rfl ?_))
       rcases ak h_16 with⟨hc_19,h_16⟩|⟨hc_19,h_16⟩
       ·refine aC rfl hc_19 wa (ae (.d (.int .u8 (b_13.toNat:Int))) wa rfl (ae (vB (decide ((b_13.toNat:Int)>=48))) wa rfl ?_))
        rcases ak h_16 with⟨hc_20,h_16⟩|⟨hc_20,h_16⟩
        ·refine aC rfl hc_20 wa (ae (.d (.int .u8 (b_13.toNat:Int))) wa rfl (ae (vB (decide ((b_13.toNat:Int)<=57))) wa rfl (ae (vB (decide ((b_13.toNat:Int)<=57))) wa rfl ?_)))
         rcases ak h_16 with⟨hc_21,h_16⟩|⟨hc_21,h_16⟩
         ·refine aC rfl hc_21 wa (aj wa (aj wa (ae (vB true) wa rfl (ae (vB true) wa rfl (aj wa (aj wa (ae (vB true) wa rfl (ae (vB true) wa rfl (ae (vB true) wz rfl (ae (vB false) wz rfl (ai ?_)))))))))))
          obtain rfl:=ah h_16
          exact cu
         ·refine aC rfl hc_21 wa (ae (.d (.int .u8 (b_13.toNat:Int))) wa rfl (ae (vB ((b_13.toNat:Int)==45)) wa rfl (ae (vB ((b_13.toNat:Int)==45)) wa rfl ?_)))
          rcases ak h_16 with⟨hc_22,h_16⟩|⟨hc_22,h_16⟩
          ·refine aC rfl hc_22 wa (aj wa (aj wa (ae (vB true) wa rfl (ae (vB true) wa rfl (ae (vB true) wz rfl (ae (vB false) wz rfl (ai ?_)))))))
           obtain rfl:=ah h_16
           exact cu
          ·refine aC rfl hc_22 wa (ae (.d (.int .u8 (b_13.toNat:Int))) wa rfl (ae (vB ((b_13.toNat:Int)==95)) wa rfl (ae (vB ((b_13.toNat:Int)==95)) wa rfl (ae (vB ((b_13.toNat:Int)==95)) wa rfl (ae (vB ((b_13.toNat:Int)==95)) wz rfl (ae (vB (!((b_13.toNat:Int)==95))) wz rfl (ai ?_)))))))
           obtain rfl:=ah h_16
           exact cu
        ·refine aC rfl hc_20 wa (aj wa (aj wa (ae (vB false) wa rfl (ae (vB false) wa rfl (ae (.d (.int .u8 (b_13.toNat:Int))) wa rfl (ae (vB ((b_13.toNat:Int)==45)) wa rfl (ae (vB ((b_13.toNat:Int)==45)) wa rfl ?_)))))))
         rcases ak h_16 with⟨hc_23,h_16⟩|⟨hc_23,h_16⟩
         ·refine aC rfl hc_23 wa (aj wa (aj wa (ae (vB true) wa rfl (ae (vB true) wa rfl (ae (vB true) wz rfl (ae (vB false) wz rfl (ai ?_)))))))
          obtain rfl:=ah h_16
          exact cu
         ·refine aC rfl hc_23 wa (ae (.d (.int .u8 (b_13.toNat:Int))) wa rfl (ae (vB ((b_13.toNat:Int)==95)) wa rfl (ae (vB ((b_13.toNat:Int)==95)) wa rfl (ae (vB ((b_13.toNat:Int)==95)) wa rfl (ae (vB ((b_13.toNat:Int)==95)) wz rfl (ae (vB (!((b_13.toNat:Int)==95))) wz rfl (ai ?_)))))))
          obtain rfl:=ah h_16
          exact cu
       ·refine aC rfl hc_19 wa (aj wa (aj wa (aj wa (aj (wn rfl rfl) (aj (wn rfl rfl) (aj wa (aj wa (aj (wn rfl rfl) (aj (wn rfl rfl) (aj wa (aj wa (aj (wn rfl rfl) (aj (wn rfl rfl) (aj wa (ae (vB false) wa rfl (ae (vB false) wz rfl (ae (vB true) wz rfl (ai ?_))))))))))))))))))
        obtain rfl:=ah h_16
        exact cu
     ·refine aC rfl hc_17 wz (aj wa (aj wa (ae (vB false) wz rfl (ae (vB false) wz rfl (ae (vI s_7) wa rfl (ae (vB (decide (s_7>0))) wa rfl ?_))))))
      rcases ak h_16 with⟨hc_24,h_16⟩|⟨hc_24,h_16⟩
      ·refine aC rfl hc_24 wa (ae (.d (.int .u8 (b_13.toNat:Int))) wa rfl (ae (vB (decide ((b_13.toNat:Int)>=48))) wa rfl ?_))
       rcases ak h_16 with⟨hc_25,h_16⟩|⟨hc_25,h_16⟩
       ·refine aC rfl hc_25 wa (ae (.d (.int .u8 (b_13.toNat:Int))) wa rfl (ae (vB (decide ((b_13.toNat:Int)<=57))) wa rfl (ae (vB (decide ((b_13.toNat:Int)<=57))) wa rfl ?_)))
        rcases ak h_16 with⟨hc_26,h_16⟩|⟨hc_26,h_16⟩
        ·refine aC rfl hc_26 wa (aj wa (aj wa (ae (vB true) wa rfl (ae (vB true) wa rfl (aj wa (aj wa (ae (vB true) wa rfl (ae (vB true) wa rfl (ae (vB true) wz rfl (ae (vB false) wz rfl (ai ?_)))))))))))
         obtain rfl:=ah h_16
         exact cu
        ·refine aC rfl hc_26 wa (ae (.d (.int .u8 (b_13.toNat:Int))) wa rfl (ae (vB ((b_13.toNat:Int)==45)) wa rfl (ae (vB ((b_13.toNat:Int)==45)) wa rfl ?_)))
         rcases ak h_16 with⟨hc_27,h_16⟩|⟨hc_27,h_16⟩
         ·refine aC rfl hc_27 wa (aj wa (aj wa (ae (vB true) wa rfl (ae (vB true) wa rfl (ae (vB true) wz rfl (ae (vB false) wz rfl (ai ?_)))))))
          obtain rfl:=ah h_16
          exact cu
         ·refine aC rfl hc_27 wa (ae (.d (.int .u8 (b_13.toNat:Int))) wa rfl (ae (vB ((b_13.toNat:Int)==95)) wa rfl (ae (vB ((b_13.toNat:Int)==95)) wa rfl (ae (vB ((b_13.toNat:Int)==95)) wa rfl (ae (vB ((b_13.toNat:Int)==95)) wz rfl (ae (vB (!((b_13.toNat:Int)==95))) wz rfl (ai ?_)))))))
          obtain rfl:=ah h_16
          exact cu
       ·refine aC rfl hc_25 wa (aj wa (aj wa (ae (vB false) wa rfl (ae (vB false) wa rfl (ae (.d (.int .u8 (b_13.toNat:Int))) wa rfl (ae (vB ((b_13.toNat:Int)==45)) wa rfl (ae (vB ((b_13.toNat:Int)==45)) wa rfl ?_)))))))
        rcases ak h_16 with⟨hc_28,h_16⟩|⟨hc_28,h_16⟩
        ·refine aC rfl hc_28 wa (aj wa (aj wa (ae (vB true) wa rfl (ae (vB true) wa rfl (ae (vB true) wz rfl (ae (vB false) wz rfl (ai ?_)))))))
         obtain rfl:=ah h_16
         exact cu
        ·refine aC rfl hc_28 wa (ae (.d (.int .u8 (b_13.toNat:Int))) wa rfl (ae (vB ((b_13.toNat:Int)==95)) wa rfl (ae (vB ((b_13.toNat:Int)==95)) wa rfl (ae (vB ((b_13.toNat:Int)==95)) wa rfl (ae (vB ((b_13.toNat:Int)==95)) wz rfl (ae (vB (!((b_13.toNat:Int)==95))) wz rfl (ai ?_)))))))
         obtain rfl:=ah h_16
         exact cu
      ·refine aC rfl hc_24 wa (aj wa (aj wa (aj wa (aj (wn rfl rfl) (aj (wn rfl rfl) (aj wa (aj wa (aj (wn rfl rfl) (aj (wn rfl rfl) (aj wa (aj wa (aj (wn rfl rfl) (aj (wn rfl rfl) (aj wa (ae (vB false) wa rfl (ae (vB false) wz rfl (ae (vB true) wz rfl (ai ?_))))))))))))))))))
       obtain rfl:=ah h_16
       exact cu
    ·rintro ⟨⟩ _ sl_ H_ hp_ hq_
     refine aQ _ hp_ hq_ ?_
     rcases ak hc_8 with⟨hc_29,hc_8⟩|⟨hc_29,hc_8⟩
     ·refine ay rfl hc_29 (af (aa (ae (vB false) wz rfl (ai ?_))))
      obtain rfl:=ah hc_8
      obtain rfl:=ah hL_9
      obtain rfl:=ah hF
      exact aB (bu (.inr rfl) [(vB false)] ⟨rfl,trivial⟩ rfl rfl rfl)
     ·refine aA rfl hc_29 (av (aa (ae (vI s_7) wz rfl (ae (vI (w64 (s_7+1))) wz rfl (ae (vI (w64 (s_7+1))) wz rfl (ai ?_))))))
      obtain rfl:=ah hc_8
      exact bf (k_2,(w64 (s_7+1))) hL_9 (ls_ _) rfl (aL rfl)
   ·refine aA rfl hc_12 (aY ?_)
    obtain rfl:=ah hc_8
    obtain rfl:=ah hL_9
    exact bz (s_7) rfl rfl (aL rfl)
 ·rintro s_7 ho_ sl_ H_ hp_ hq_
  subst ho_
  refine aQ _ hp_ hq_ (af ?_)
  obtain ⟨v_30,h_31,hF⟩:=bind_some hF
  refine aG (β:=Unit) (λ_=>([(2,(vB v_30))]:SL_)) (λ_=>([]:Hp)) (λ_=>True) ?_ ?_
  ·refine aa (ae (vS s_1) wz rfl (ae (vB (sNe s_1 (⟨#[]⟩:ByteArray))) wz rfl ?_))
   rcases ak h_31 with⟨hc_32,h_31⟩|⟨hc_32,h_31⟩
   ·refine aC rfl hc_32 wz (ae (vS s_1) wa rfl (tQ un9 rfl wa (ae (vB (decide ((s_1.size:Int)<=40))) wa rfl (ae (vB (decide ((s_1.size:Int)<=40))) wz rfl (ae (vB (decide ((s_1.size:Int)<=40))) wz rfl (ai ?_))))))
    obtain rfl:=ah h_31
    exact cu
   ·refine aC rfl hc_32 wz (aj wa (aj wa (aj wa (ae (vB false) wz rfl (ae (vB false) wz rfl (ai ?_))))))
    obtain rfl:=ah h_31
    exact cu
  ·rintro ⟨⟩ _ sl_ H_ hp_ hq_
   refine aQ _ hp_ hq_ ?_
   obtain rfl:=ah hF
   exact aB (bu (.inr rfl) [(vB v_30)] ⟨rfl,trivial⟩ rfl rfl rfl)
theorem kI {n_1:Int} {low_2:Int} {high_3:Int} {r:Bool} (hF:gD n_1 low_2 high_3=some r) :
  FnM Tryz.prog 65 [(vI n_1),(vI low_2),(vI high_3)] [] (vB r) []:=by
 refine FnM.of_wH ⟨Tryz.prog,15,[],[]⟩ rfl Tryz.func65 rfl rfl (lb_ rfl) (by kernel_rfl) ?_
 unfold gD at hF
 refine af (aa (ae (vB false) wz rfl (ai (af ?_))))
 obtain ⟨v_4,h_5,hF⟩:=bind_some hF
 refine aG (β:=Unit) (λ_=>([(6,(vB v_4))]:SL_)) (λ_=>([]:Hp)) (λ_=>True) ?_ ?_
 ·refine aa (ae (vI n_1) wz rfl (ae (vI low_2) wz rfl (ae (vB (decide (n_1<low_2))) wz rfl ?_)))
  rcases ak h_5 with⟨hc_6,h_5⟩|⟨hc_6,h_5⟩
  ·refine aC rfl hc_6 wz (aj wa (aj wa (aj wa (ae (vB true) wz rfl (ae (vB true) wz rfl (ai ?_))))))
   obtain rfl:=ah h_5
   exact cu
  ·refine aC rfl hc_6 wz (ae (vI n_1) wa rfl (ae (vI high_3) wa rfl (ae (vB (decide (n_1>high_3))) wa rfl (ae (vB (decide (n_1>high_3))) wz rfl (ae (vB (decide (n_1>high_3))) wz rfl (ai ?_))))))
   obtain rfl:=ah h_5
   exact cu
 ·rintro ⟨⟩ _ sl_ H_ hp_ hq_
  refine aQ _ hp_ hq_ ?_
  obtain rfl:=ah hF
  exact aB (bu (.inr rfl) [(vB v_4)] ⟨rfl,trivial⟩ rfl rfl rfl)
theorem sQ {l_1:Log_} {r:Int} (hF:jh l_1=some r) :
  FnM Tryz.prog 83 [(.d (.agg (Log_.enc l_1)))] [] (vI r) []:=by
 refine FnM.of_wH ⟨Tryz.prog,26,[],[]⟩ rfl Tryz.func83 rfl rfl (lb_ rfl) (by kernel_rfl) ?_
 unfold jh at hF
 refine af (aa (kN 0 (.inl rfl) [(vS l_1.Player),(vS l_1.Item),(vI l_1.No),(vI l_1.Clock),(vI l_1.Long),(vS l_1.Sum)] rfl rfl wz (λn_2=>ae (vI 0) wz rfl (ai (af (af ?_))))))
 obtain ⟨v_3,h_4,hF⟩:=bind_some hF
 refine aG (β:=Unit) (λ_=>([(1,(.ref n_2 0 0)),(12,(vB v_3))]:SL_)) (λ_=>([(n_2,some (.cells 6 [(vS l_1.Player),(vS l_1.Item),(vI l_1.No),(vI l_1.Clock),(vI l_1.Long),(vS l_1.Sum)]))]:Hp)) (λ_=>True) ?_ ?_
 ·refine aa (aJ iJ rfl 0 rfl wz (aK 0 0 il ft sz9 ag9 rfl rfl (vS l_1.Player) rfl wz ?_))
  obtain ⟨r_5,hr_6,h_4⟩:=bind_some h_4
  refine aH (lV hr_6) rfl Eb rfl rfl rfl rfl wz (ae (vB (!r_5)) wz rfl ?_)
  rcases ak h_4 with⟨hc_7,h_4⟩|⟨hc_7,h_4⟩
  ·refine aC rfl hc_7 wz (aj wa (aj wa (aj wa (aj wa (ae (vB true) wz rfl (ai ?_))))))
   obtain rfl:=ah h_4
   exact cu
  ·refine aC rfl hc_7 wz (aJ rq rfl 1 rfl wa (aK 0 0 il ft sz9 ag9 rfl rfl (vS l_1.Item) rfl wa ?_))
   obtain ⟨r_8,hr_9,h_4⟩:=bind_some h_4
   refine aH (lV hr_9) rfl Eb rfl rfl rfl rfl wa (ae (vB (!r_8)) wa rfl (ae (vB (!r_8)) wz rfl (ai ?_)))
   obtain rfl:=ah h_4
   exact cu
 ·rintro ⟨⟩ _ sl_ H_ hp_ hq_
  refine aQ _ hp_ hq_ ?_
  rcases ak hF with⟨hc_10,hF⟩|⟨hc_10,hF⟩
  ·refine ay rfl hc_10 (af (aa (ae (vI 5) wz rfl (ai ?_))))
   obtain rfl:=ah hF
   exact aB (bu (.inr rfl) [(vI 5)] ⟨rfl,trivial⟩ rfl rfl rfl)
  ·refine aA rfl hc_10 (av (af (af ?_)))
   obtain ⟨v_11,h_12,hF⟩:=bind_some hF
   refine aG (β:=Unit) (λ_=>([(25,(vB v_11))]:SL_)) (λ_=>([(n_2,some (.cells 6 [(vS l_1.Player),(vS l_1.Item),(vI l_1.No),(vI l_1.Clock),(vI l_1.Long),(vS l_1.Sum)]))]:Hp)) (λ_=>True) ?_ ?_
   ·refine aa (aJ pO rfl 2 rfl wz (aK 0 0 il ft sz3 ag3 rfl rfl (vI l_1.No) rfl wz ?_))
    obtain ⟨r_13,hr_14,h_12⟩:=bind_some h_12
    refine aH (kI hr_14) rfl hb65 rfl rfl rfl rfl wz ?_
    rcases ak h_12 with⟨hc_15,h_12⟩|⟨hc_15,h_12⟩
    ·refine aC rfl hc_15 wz (aj wa (aj wa (aj wa (ae (vB true) wz rfl (ae (vB true) wz rfl (aj wa (aj wa (aj wa (ae (vB true) wz rfl (ai ?_))))))))))
     obtain rfl:=ah h_12
     exact cu
    ·refine aC rfl hc_15 wz (aJ ou rfl 3 rfl wa (aK 0 0 il ft sz3 ag3 rfl rfl (vI l_1.Clock) rfl wa ?_))
     obtain ⟨r_16,hr_17,h_12⟩:=bind_some h_12
     refine aH (kI hr_17) rfl hb65 rfl rfl rfl rfl wa (ae (vB r_16) wz rfl ?_)
     rcases ak h_12 with⟨hc_18,h_12⟩|⟨hc_18,h_12⟩
     ·refine aC rfl hc_18 wz (aj wa (aj wa (aj wa (ae (vB true) wz rfl (ai ?_)))))
      obtain rfl:=ah h_12
      exact cu
     ·refine aC rfl hc_18 wz (aJ sV rfl 4 rfl wa (aK 0 0 il ft sz3 ag3 rfl rfl (vI l_1.Long) rfl wa ?_))
      obtain ⟨r_19,hr_20,h_12⟩:=bind_some h_12
      refine aH (kI hr_20) rfl hb65 rfl rfl rfl rfl wa (ae (vB r_19) wz rfl (ai ?_))
      obtain rfl:=ah h_12
      exact cu
   ·rintro ⟨⟩ _ sl_ H_ hp_ hq_
    refine aQ _ hp_ hq_ ?_
    rcases ak hF with⟨hc_21,hF⟩|⟨hc_21,hF⟩
    ·refine ay rfl hc_21 (af (aa (ae (vI 1) wz rfl (ai ?_))))
     obtain rfl:=ah hF
     exact aB (bu (.inr rfl) [(vI 1)] ⟨rfl,trivial⟩ rfl rfl rfl)
    ·refine aA rfl hc_21 (av (af (aa (ae (vI 0) wz rfl (ai ?_)))))
     obtain rfl:=ah hF
     exact aB (bu (.inr rfl) [(vI 0)] ⟨rfl,trivial⟩ rfl rfl rfl)
theorem vk {x0:ByteArray} {x1:ByteArray} {r:ByteArray} (hF:lS x0 x1=some r) :
  FnM Tryz.prog 120 [(vS x0),(vS x1)] [] (vS r) [] :=
 FQ rfl Tryz.strings_Trim_ascii  hF
theorem uZ {s_1:ByteArray} {r:Bool} (hF:kC s_1=some r) :
  FnM Tryz.prog 84 [(vS s_1)] [] (vB r) []:=by
 refine FnM.of_wH ⟨Tryz.prog,11,[],[]⟩ rfl Tryz.func84 rfl rfl (lb_ rfl) (by kernel_rfl) ?_
 unfold kC at hF
 refine af (aa (ae (vB false) wz rfl (ai (af ?_))))
 obtain ⟨v_2,h_3,hF⟩:=bind_some hF
 refine aG (β:=Unit) (λ_=>([(2,(vB v_2))]:SL_)) (λ_=>([]:Hp)) (λ_=>True) ?_ ?_
 ·refine aa (ae (vS s_1) wz rfl (tQ un9 rfl wz (ae (vB ((s_1.size:Int)==16)) wz rfl ?_)))
  rcases ak h_3 with⟨hc_4,h_3⟩|⟨hc_4,h_3⟩
  ·refine aC rfl hc_4 wz (ae (vS s_1) wa rfl ?_)
   obtain ⟨r_5,hr_6,h_3⟩:=bind_some h_3
   refine aH (vk hr_6) rfl hb120 rfl rfl rfl rfl wa (ae (vB (sEq r_5 (⟨#[]⟩:ByteArray))) wa rfl (ae (vB (sEq r_5 (⟨#[]⟩:ByteArray))) wz rfl (ae (vB (sEq r_5 (⟨#[]⟩:ByteArray))) wz rfl (ai ?_))))
   obtain rfl:=ah h_3
   exact cu
  ·refine aC rfl hc_4 wz (aj wa (aj wa (aj wa (ae (vB false) wz rfl (ae (vB false) wz rfl (ai ?_))))))
   obtain rfl:=ah h_3
   exact cu
 ·rintro ⟨⟩ _ sl_ H_ hp_ hq_
  refine aQ _ hp_ hq_ ?_
  obtain rfl:=ah hF
  exact aB (bu (.inr rfl) [(vB v_2)] ⟨rfl,trivial⟩ rfl rfl rfl)
theorem ku {a_1:ByteArray} {b_2:ByteArray} {r:Int} (hF:fq a_1 b_2=some r) :
  FnM Tryz.prog 139 [(vS a_1),(vS b_2)] [] (vI r) []:=by
 refine FnM.of_wH ⟨Tryz.prog,8,[],[]⟩ rfl Tryz.func139 rfl rfl (lb_ rfl) (by kernel_rfl) ?_
 unfold fq at hF
 refine af (aa (ae (vI 0) wz rfl (ai (af (aa (ae (vS a_1) wz rfl (ae (vS b_2) wz rfl (h_ext (FY (f:=180) Tryz.func180 rfl rfl (by kernel_rfl) (by kernel_rfl) _ _) rfl nb180 rfl wz (ae (vI (mK a_1 b_2)) wz rfl (ai ?_))))))))))
 obtain rfl:=ah hF
 exact aB (bu (.inr rfl) [(vI (mK a_1 b_2))] ⟨rfl,trivial⟩ rfl rfl rfl)
theorem iI {a_1:ByteArray} {b_2:ByteArray} {r:Int} (hF:strings_Compare a_1 b_2=some r) :
  FnM Tryz.prog 107 [(vS a_1),(vS b_2)] [] (vI r) []:=by
 refine FnM.of_wH ⟨Tryz.prog,8,[],[]⟩ rfl Tryz.func107 rfl rfl (lb_ rfl) (by kernel_rfl) ?_
 unfold strings_Compare at hF
 refine af (aa (ae (vI 0) wz rfl (ai (af (aa (ae (vS a_1) wz rfl (ae (vS b_2) wz rfl ?_)))))))
 obtain ⟨r_3,hr_4,hF⟩:=bind_some hF
 refine aH (ku hr_4) rfl hb139 rfl rfl rfl rfl wz (ae (vI r_3) wz rfl (ai ?_))
 obtain rfl:=ah hF
 exact aB (bu (.inr rfl) [(vI r_3)] ⟨rfl,trivial⟩ rfl rfl rfl)
theorem nX {x_1:Int} {r:Bool} (hF:cmp_isNaN_int x_1=some r) :
  FnM Tryz.prog 147 [(vI x_1)] [] (vB r) []:=by
 refine FnM.of_wH ⟨Tryz.prog,6,[],[]⟩ rfl Tryz.func147 rfl rfl (lb_ rfl) (by kernel_rfl) ?_
 unfold cmp_isNaN_int at hF
 refine af (aa (ae (vB false) wz rfl (ai (af (aa (ae (vI x_1) wz rfl (ae (vI x_1) wz rfl (ae (vB (x_1 != x_1)) wz rfl (ae (vB (x_1 != x_1)) wz rfl (ai ?_))))))))))
 obtain rfl:=ah hF
 exact aB (bu (.inr rfl) [(vB (x_1 != x_1))] ⟨rfl,trivial⟩ rfl rfl rfl)
theorem jN {x_1:Int} {y_2:Int} {r:Int} (hF:cmp_Compare_int x_1 y_2=some r) :
  FnM Tryz.prog 118 [(vI x_1),(vI y_2)] [] (vI r) []:=by
 refine FnM.of_wH ⟨Tryz.prog,20,[],[]⟩ rfl Tryz.func118 rfl rfl (lb_ rfl) (by kernel_rfl) ?_
 unfold cmp_Compare_int at hF
 refine af (aa (ae (vI 0) wz rfl (ai (af (aa (ae (vI x_1) wz rfl ?_))))))
 obtain ⟨r_3,hr_4,hF⟩:=bind_some hF
 refine aH (nX hr_4) rfl hb147 rfl rfl rfl rfl wz (ae (vB r_3) wz rfl (ai (af (aa (ae (vI y_2) wz rfl ?_)))))
 obtain ⟨r_5,hr_6,hF⟩:=bind_some hF
 refine aH (nX hr_6) rfl hb147 rfl rfl rfl rfl wz (ae (vB r_5) wz rfl (ai (af (af (aa (ae (vB r_3) wz rfl (ai ?_)))))))
 rcases ak hF with⟨hc_7,hF⟩|⟨hc_7,hF⟩
 ·refine ay rfl hc_7 (af (af (aa (ae (vB r_5) wz rfl (ai ?_)))))
  rcases ak hF with⟨hc_8,hF⟩|⟨hc_8,hF⟩
  ·refine ay rfl hc_8 (af (aa (ae (vI 0) wz rfl (ai ?_))))
   obtain rfl:=ah hF
   exact aB (bu (.inr rfl) [(vI 0)] ⟨rfl,trivial⟩ rfl rfl rfl)
  ·refine aA rfl hc_8 (av (af (aa (ae (vI (-1)) wz rfl (ai ?_)))))
   obtain rfl:=ah hF
   exact aB (bu (.inr rfl) [(vI (-1))] ⟨rfl,trivial⟩ rfl rfl rfl)
 ·refine aA rfl hc_7 (av (af (af (aa (ae (vB r_5) wz rfl (ai ?_))))))
  rcases ak hF with⟨hc_9,hF⟩|⟨hc_9,hF⟩
  ·refine ay rfl hc_9 (af (aa (ae (vI 1) wz rfl (ai ?_))))
   obtain rfl:=ah hF
   exact aB (bu (.inr rfl) [(vI 1)] ⟨rfl,trivial⟩ rfl rfl rfl)
  ·refine aA rfl hc_9 (av (af (af (aa (ae (vI x_1) wz rfl (ae (vI y_2) wz rfl (ae (vB (decide (x_1<y_2))) wz rfl (ai ?_))))))))
   rcases ak hF with⟨hc_10,hF⟩|⟨hc_10,hF⟩
   ·refine ay rfl hc_10 (af (aa (ae (vI (-1)) wz rfl (ai ?_))))
    obtain rfl:=ah hF
    exact aB (bu (.inr rfl) [(vI (-1))] ⟨rfl,trivial⟩ rfl rfl rfl)
   ·refine aA rfl hc_10 (av (af (af (aa (ae (vI x_1) wz rfl (ae (vI y_2) wz rfl (ae (vB (decide (x_1>y_2))) wz rfl (ai ?_))))))))
    rcases ak hF with⟨hc_11,hF⟩|⟨hc_11,hF⟩
    ·refine ay rfl hc_11 (af (aa (ae (vI 1) wz rfl (ai ?_))))
     obtain rfl:=ah hF
     exact aB (bu (.inr rfl) [(vI 1)] ⟨rfl,trivial⟩ rfl rfl rfl)
    ·refine aA rfl hc_11 (av (af (aa (ae (vI 0) wz rfl (ai ?_)))))
     obtain rfl:=ah hF
     exact aB (bu (.inr rfl) [(vI 0)] ⟨rfl,trivial⟩ rfl rfl rfl)
theorem qJ {vals_1:(List Int)} {r:Int} (hF:kU vals_1=some r) :
  FnM Tryz.prog 117 [(vL eI vals_1)] [] (vI r) []:=by
 refine FnM.of_wH ⟨Tryz.prog,18,[],[]⟩ rfl Tryz.func117 rfl rfl (lb_ rfl) (by kernel_rfl) ?_
 unfold kU at hF
 refine af (aa (ae (vI 0) wz rfl (ai (af (aa (ae (vI 0) wz rfl (ai (af (af (aa (ae (vL eI vals_1) wz rfl (eY yl rfl wz (ae (vI 0) wz rfl (ai ?_))))))))))))))
 obtain ⟨o_10,hj_11,hF⟩:=bind_some hF
 obtain ⟨hn_6,hj_11⟩:=bX hj_11
 refine aG (β:=(Unit)) (λ(s_7:Unit)=>([(3,(vI 0))]:SL_)) (λ(s_7:Unit)=>([]:Hp)) (λp=>o_10 = .go p) ?_ ?_
 ·refine ax (bA (β:=Nat×(List Int)×(Unit)) (λp=>(λ(k_2:Nat) (l_3:List Int) (s_7:Unit)=>([(3,(vI 0)),(6,(vL eI vals_1)),(7,(vI (vals_1.length:Int))),(8,(vI (k_2:Int)))]:SL_)) p.1 p.2.1 p.2.2) (λp=>(λ(k_2:Nat) (l_3:List Int) (s_7:Unit)=>([]:Hp)) p.1 p.2.1 p.2.2) (λp=>dY (λk x s=>kY k x s) p.2.1 p.1 p.2.2=some o_10/\(vals_1).drop p.1=p.2.1) (λp=>p.2.1.length) (0,vals_1,()) ⟨hj_11,rfl⟩ rfl (aL rfl) ?_)
  rintro ⟨k_2,l_3,s_7⟩ ⟨hL_9,hD_5⟩
  dsimp only at hL_9 hD_5
  cases l_3 with
  | nil =>
   obtain rfl:=ah hL_9
   refine af (aa (ae (vB (decide ((k_2:Int)<(vals_1.length:Int)))) wz rfl (ai ?_)))
   refine af (aA rfl (drop_nil hD_5) (aY ?_))
   exact bz (s_7) rfl rfl (aL rfl)
  | cons x_4 l_3 =>
   obtain ⟨c_,hc_8,hL_9⟩:=bind_some hL_9
   refine af (aa (ae (vB (decide ((k_2:Int)<(vals_1.length:Int)))) wz rfl (ai ?_)))
   refine af (ay rfl (ek hD_5) (av ?_))
   unfold kY at hc_8
   refine af (ax (af (aa (fH oC rfl rfl (eU hD_5) rfl wz (cO sz3 ag3 rfl (vI x_4) rfl wz (ae (vI x_4) wz rfl (ai (af (aa (ae (vI x_4) wz rfl (ae (vI 0) wz rfl (ae (vB (x_4 != 0)) wz rfl (ai ?_)))))))))))))
   rcases ak hc_8 with⟨hc_12,hc_8⟩|⟨hc_12,hc_8⟩
   ·refine ay rfl hc_12 (af (aa (ae (vI x_4) wz rfl (ae (vI x_4) wz rfl (ai ?_)))))
    obtain rfl:=ah hc_8
    obtain rfl:=ah hL_9
    obtain rfl:=ah hF
    exact aB (bu (.inr rfl) [(vI x_4)] ⟨rfl,trivial⟩ rfl rfl rfl)
   ·refine aA rfl hc_12 (av (aa (gW (dh hD_5 hn_6) wz rfl (ae (vI ((k_2+1:Nat):Int)) wz rfl (ai ?_)))))
    obtain rfl:=ah hc_8
    exact bf (k_2+1,l_3,()) ⟨hL_9,aU hD_5⟩ (ls_ _) rfl (aL rfl)
 ·rintro s_7 ho_ sl_ H_ hp_ hq_
  subst ho_
  refine aQ _ hp_ hq_ (af (aa (ae (vI 0) wz rfl (ae (vI 0) wz rfl (ai ?_)))))
  obtain rfl:=ah hF
  exact aB (bu (.inr rfl) [(vI 0)] ⟨rfl,trivial⟩ rfl rfl rfl)
theorem pX {a_1:Log_} {b_2:Log_} {r:Int} (hF:gN a_1 b_2=some r) :
  FnM Tryz.prog 80 [(.d (.agg (Log_.enc a_1))),(.d (.agg (Log_.enc b_2)))] [] (vI r) []:=by
 refine FnM.of_wH ⟨Tryz.prog,17,[],[]⟩ rfl Tryz.func80 rfl rfl (lb_ rfl) (by kernel_rfl) ?_
 unfold gN at hF
 refine af (aa (kN 0 (.inl rfl) [(vS a_1.Player),(vS a_1.Item),(vI a_1.No),(vI a_1.Clock),(vI a_1.Long),(vS a_1.Sum)] rfl rfl wz (λn_3=>kN 0 (.inl rfl) [(vS b_2.Player),(vS b_2.Item),(vI b_2.No),(vI b_2.Clock),(vI b_2.Long),(vS b_2.Sum)] rfl rfl wz (λn_4=>ae (vI 0) wz rfl (ai (af (bK (aJ iJ rfl 0 rfl wz (aK 1 0 (.inr (by kernel_rfl)) (λ_ _ ag=>trivial) sz9 ag9 rfl rfl (vS a_1.Player) rfl wz (aJ iJ rfl 0 rfl wz (aK 3 1 (.inr (by kernel_rfl)) (λ_ _ ag=>⟨.inl ⟨rfl,rfl⟩,trivial⟩) sz9 ag9 rfl rfl (vS b_2.Player) rfl wz ?_)))))))))))
 obtain ⟨r_5,hr_6,hF⟩:=bind_some hF
 refine aH (iI hr_6) rfl DD rfl rfl rfl rfl wz (aJ pO rfl 2 rfl wz (aK 6 0 (.inr (by kernel_rfl)) (λ_ _ ag=>⟨.inl ⟨rfl,rfl⟩,⟨.inl ⟨rfl,rfl⟩,trivial⟩⟩) sz3 ag3 rfl rfl (vI a_1.No) rfl wz (aJ pO rfl 2 rfl wz (aK 8 1 (.inr (by kernel_rfl)) (λ_ _ ag=>⟨.inl ⟨rfl,rfl⟩,⟨.inl ⟨rfl,rfl⟩,⟨.inl ⟨rfl,rfl⟩,trivial⟩⟩⟩) sz3 ag3 rfl rfl (vI b_2.No) rfl wz ?_))))
 obtain ⟨r_7,hr_8,hF⟩:=bind_some hF
 refine aH (jN hr_8) rfl F7 rfl rfl rfl rfl wz (fw (([r_5,r_7]:List Int).map eI) oC ut rfl rfl rfl rfl rfl wz ?_)
 obtain ⟨r_9,hr_10,hF⟩:=bind_some hF
 refine aH (qJ hr_10) rfl hb117 rfl rfl rfl rfl wz (ae (vI r_9) wz rfl (ai ?_))
 obtain rfl:=ah hF
 exact aB (bu (.inr rfl) [(vI r_9)] ⟨rfl,trivial⟩ rfl rfl rfl)
theorem q8 {l_1:(List Log_)} {r:Int} (hF:gz l_1=some r) :
  FnM Tryz.prog 39 [(vL Log_.enc l_1)] [] (vI r) []:=by
 refine FnM.of_wH ⟨Tryz.prog,38,[],[]⟩ rfl Tryz.func39 rfl rfl (lb_ rfl) (by kernel_rfl) ?_
 unfold gz at hF
 refine af (aa (ae (vI 0) wz rfl (ai (af (af (aa (ae (vL Log_.enc l_1) wz rfl (eY tu rfl wz (ae (vB (decide ((l_1.length:Int)>2000))) wz rfl (ai ?_))))))))))
 rcases ak hF with⟨hc_2,hF⟩|⟨hc_2,hF⟩
 ·refine ay rfl hc_2 (af (aa (ae (vI 2) wz rfl (ai ?_))))
  obtain rfl:=ah hF
  exact aB (bu (.inr rfl) [(vI 2)] ⟨rfl,trivial⟩ rfl rfl rfl)
 ·refine aA rfl hc_2 (av (af (af (aa (ae (vL Log_.enc l_1) wz rfl (eY tu rfl wz (ae (vI 0) wz rfl (ai ?_))))))))
  obtain ⟨o_11,hj_12,hF⟩:=bind_some hF
  obtain ⟨hn_7,hj_12⟩:=bX hj_12
  refine aG (β:=(Unit)) (λ(s_8:Unit)=>([]:SL_)) (λ(s_8:Unit)=>([]:Hp)) (λp=>o_11 = .go p) ?_ ?_
  ·refine ax (bA (β:=Nat×(List Log_)×(Unit)) (λp=>(λ(k_3:Nat) (l_4:List Log_) (s_8:Unit)=>([(0,(vL Log_.enc l_1)),(9,(vL Log_.enc l_1)),(10,(vI (l_1.length:Int))),(11,(vI (k_3:Int)))]:SL_)) p.1 p.2.1 p.2.2) (λp=>(λ(k_3:Nat) (l_4:List Log_) (s_8:Unit)=>([]:Hp)) p.1 p.2.1 p.2.2) (λp=>dY (λk x s=>iH l_1 k x s) p.2.1 p.1 p.2.2=some o_11/\(l_1).drop p.1=p.2.1) (λp=>p.2.1.length) (0,l_1,()) ⟨hj_12,rfl⟩ rfl (aL rfl) ?_)
   rintro ⟨k_3,l_4,s_8⟩ ⟨hL_10,hD_6⟩
   dsimp only at hL_10 hD_6
   cases l_4 with
   | nil =>
    obtain rfl:=ah hL_10
    refine af (aa (ae (vB (decide ((k_3:Int)<(l_1.length:Int)))) wz rfl (ai ?_)))
    refine af (aA rfl (drop_nil hD_6) (aY ?_))
    exact bz (s_8) rfl rfl (aL rfl)
   | cons x_5 l_4 =>
    obtain ⟨c_,hc_9,hL_10⟩:=bind_some hL_10
    refine af (aa (ae (vB (decide ((k_3:Int)<(l_1.length:Int)))) wz rfl (ai ?_)))
    refine af (ay rfl (ek hD_6) (av ?_))
    unfold iH at hc_9
    refine af (ax (af (aa (ae (vI (k_3:Int)) wz rfl (fH nU rfl rfl (eU hD_6) rfl wz (cO om tO rfl (.d (.agg (Log_.enc x_5))) rfl wz (gM 0 (.inl rfl) z43 rfl wz (λn_13=>ae (vI (k_3:Int)) wz rfl (jE 0 il ft 0 om rfl rfl [(vS x_5.Player),(vS x_5.Item),(vI x_5.No),(vI x_5.Clock),(vI x_5.Long),(vS x_5.Sum)] rfl wz (ai (af (af (aa (aK 0 0 il ft om tO rfl rfl (.d (.agg (Log_.enc x_5))) rfl wz ?_))))))))))))))
    obtain ⟨r_14,hr_15,hc_9⟩:=bind_some hc_9
    refine aH (sQ hr_15) rfl hb83 rfl rfl rfl rfl wz (ae (vI r_14) wz rfl (ai (af (aa (ae (vI r_14) wz rfl (ae (vB (r_14 != 0)) wz rfl (ai ?_)))))))
    rcases ak hc_9 with⟨hc_16,hc_9⟩|⟨hc_16,hc_9⟩
    ·refine ay rfl hc_16 (af (aa (ae (vI r_14) wz rfl (ae (vI r_14) wz rfl (ai ?_)))))
     obtain rfl:=ah hc_9
     obtain rfl:=ah hL_10
     obtain rfl:=ah hF
     exact aB (bu (.inr rfl) [(vI r_14)] ⟨rfl,trivial⟩ rfl rfl rfl)
    ·refine aA rfl hc_16 (av (af (af (aa (aJ rE rfl 5 rfl wz (aK 0 0 il ft sz9 ag9 rfl rfl (vS x_5.Sum) rfl wz ?_))))))
     obtain ⟨r_17,hr_18,hc_9⟩:=bind_some hc_9
     refine aH (uZ hr_18) rfl hb84 rfl rfl rfl rfl wz (ae (vB (!r_17)) wz rfl (ai ?_))
     rcases ak hc_9 with⟨hc_19,hc_9⟩|⟨hc_19,hc_9⟩
     ·refine ay rfl hc_19 (af (aa (ae (vI 3) wz rfl (ai ?_))))
      obtain rfl:=ah hc_9
      obtain rfl:=ah hL_10
      obtain rfl:=ah hF
      exact aB (bu (.inr rfl) [(vI 3)] ⟨rfl,trivial⟩ rfl rfl rfl)
     ·refine aA rfl hc_19 (av (af ?_))
      obtain ⟨v_20,h_21,hc_9⟩:=bind_some hc_9
      refine aG (β:=Unit) (λ_=>([(0,(vL Log_.enc l_1)),(9,(vL Log_.enc l_1)),(10,(vI (l_1.length:Int))),(11,(vI (k_3:Int))),(36,(vB v_20))]:SL_)) (λ_=>([(n_13,some (.cells 6 [(vS x_5.Player),(vS x_5.Item),(vI x_5.No),(vI x_5.Clock),(vI x_5.Long),(vS x_5.Sum)]))]:Hp)) (λ_=>True) ?_ ?_
      ·refine bK (ae (vI (k_3:Int)) wz rfl (ae (vB (decide ((k_3:Int)>0))) wz rfl ?_))
       rcases ak h_21 with⟨hc_22,h_21⟩|⟨hc_22,h_21⟩
       ·refine aC rfl hc_22 wz (ae (vL Log_.enc l_1) wa rfl (ae (vI (k_3:Int)) wa rfl (ae (vI (w64 ((k_3:Int)-1))) wa rfl ?_)))
        obtain ⟨y_23,hy_24,h_21⟩:=bind_some h_21
        refine fH nU rfl rfl hy_24 rfl wa (cO om tO rfl (.d (.agg (Log_.enc y_23))) rfl wa (aK 8 0 (.inr (by kernel_rfl)) (λ_ _ ag=>trivial) om tO rfl rfl (.d (.agg (Log_.enc x_5))) rfl wa ?_))
        obtain ⟨r_25,hr_26,h_21⟩:=bind_some h_21
        refine aH (pX hr_26) rfl hb80 rfl rfl rfl rfl wa (ae (vB (decide (r_25>=0))) wa rfl (ae (vB (decide (r_25>=0))) wz rfl (ai ?_)))
        obtain rfl:=ah h_21
        exact cu
       ·refine aC rfl hc_22 wz (aj wa (aj wa (aj wa (aj wa (aj wa (aj wa (aj wa (aj wa (ae (vB false) wz rfl (ai ?_))))))))))
        obtain rfl:=ah h_21
        exact cu
      ·rintro ⟨⟩ _ sl_ H_ hp_ hq_
       refine aQ _ hp_ hq_ ?_
       rcases ak hc_9 with⟨hc_27,hc_9⟩|⟨hc_27,hc_9⟩
       ·refine ay rfl hc_27 (af (aa (ae (vI 7) wz rfl (ai ?_))))
        obtain rfl:=ah hc_9
        obtain rfl:=ah hL_10
        obtain rfl:=ah hF
        exact aB (bu (.inr rfl) [(vI 7)] ⟨rfl,trivial⟩ rfl rfl rfl)
       ·refine aA rfl hc_27 (av (aa (gW (dh hD_6 hn_7) wz rfl (ae (vI ((k_3+1:Nat):Int)) wz rfl (ai ?_)))))
        obtain rfl:=ah hc_9
        exact bf (k_3+1,l_4,()) ⟨hL_10,aU hD_6⟩ (ls_ _) rfl (aL rfl)
  ·rintro s_8 ho_ sl_ H_ hp_ hq_
   subst ho_
   refine aQ _ hp_ hq_ (af (aa (ae (vI 0) wz rfl (ai ?_))))
   obtain rfl:=ah hF
   exact aB (bu (.inr rfl) [(vI 0)] ⟨rfl,trivial⟩ rfl rfl rfl)
theorem gy {n_1:Int} {r:Bool} (hF:eQ n_1=some r) :
  FnM Tryz.prog 102 [(vI n_1)] [] (vB r) []:=by
 refine FnM.of_wH ⟨Tryz.prog,9,[],[]⟩ rfl Tryz.func102 rfl rfl (lb_ rfl) (by kernel_rfl) ?_
 unfold eQ at hF
 refine af (aa (ae (vB false) wz rfl (ai (af ?_))))
 obtain ⟨v_2,h_3,hF⟩:=bind_some hF
 refine aG (β:=Unit) (λ_=>([(2,(vB v_2))]:SL_)) (λ_=>([]:Hp)) (λ_=>True) ?_ ?_
 ·refine aa (ae (vI n_1) wz rfl (ae (vB (decide (n_1>=0))) wz rfl ?_))
  rcases ak h_3 with⟨hc_4,h_3⟩|⟨hc_4,h_3⟩
  ·refine aC rfl hc_4 wz (ae (vI n_1) wa rfl (ae (vB (decide (n_1<345686400000))) wa rfl (ae (vB (decide (n_1<345686400000))) wz rfl (ae (vB (decide (n_1<345686400000))) wz rfl (ai ?_)))))
   obtain rfl:=ah h_3
   exact cu
  ·refine aC rfl hc_4 wz (aj wa (aj wa (ae (vB false) wz rfl (ae (vB false) wz rfl (ai ?_)))))
   obtain rfl:=ah h_3
   exact cu
 ·rintro ⟨⟩ _ sl_ H_ hp_ hq_
  refine aQ _ hp_ hq_ ?_
  obtain rfl:=ah hF
  exact aB (bu (.inr rfl) [(vB v_2)] ⟨rfl,trivial⟩ rfl rfl rfl)
theorem o6 {a_1:Beat} {b_2:Beat} {r:Int} (hF:fT a_1 b_2=some r) :
  FnM Tryz.prog 130 [(.d (.agg (Beat.enc a_1))),(.d (.agg (Beat.enc b_2)))] [] (vI r) []:=by
 refine FnM.of_wH ⟨Tryz.prog,17,[],[]⟩ rfl Tryz.func130 rfl rfl (lb_ rfl) (by kernel_rfl) ?_
 unfold fT at hF
 refine af (aa (kN 0 (.inl rfl) [(vS a_1.Player),(vI a_1.At),(vI a_1.Clock)] rfl rfl wz (λn_3=>kN 0 (.inl rfl) [(vS b_2.Player),(vI b_2.At),(vI b_2.Clock)] rfl rfl wz (λn_4=>ae (vI 0) wz rfl (ai (af (bK (aJ gZ rfl 0 rfl wz (aK 1 0 (.inr (by kernel_rfl)) (λ_ _ ag=>trivial) sz9 ag9 rfl rfl (vS a_1.Player) rfl wz (aJ gZ rfl 0 rfl wz (aK 3 1 (.inr (by kernel_rfl)) (λ_ _ ag=>⟨.inl ⟨rfl,rfl⟩,trivial⟩) sz9 ag9 rfl rfl (vS b_2.Player) rfl wz ?_)))))))))))
 obtain ⟨r_5,hr_6,hF⟩:=bind_some hF
 refine aH (iI hr_6) rfl DD rfl rfl rfl rfl wz (aJ gY rfl 1 rfl wz (aK 6 0 (.inr (by kernel_rfl)) (λ_ _ ag=>⟨.inl ⟨rfl,rfl⟩,⟨.inl ⟨rfl,rfl⟩,trivial⟩⟩) sz3 ag3 rfl rfl (vI a_1.At) rfl wz (aJ gY rfl 1 rfl wz (aK 8 1 (.inr (by kernel_rfl)) (λ_ _ ag=>⟨.inl ⟨rfl,rfl⟩,⟨.inl ⟨rfl,rfl⟩,⟨.inl ⟨rfl,rfl⟩,trivial⟩⟩⟩) sz3 ag3 rfl rfl (vI b_2.At) rfl wz ?_))))
 obtain ⟨r_7,hr_8,hF⟩:=bind_some hF
 refine aH (jN hr_8) rfl F7 rfl rfl rfl rfl wz (fw (([r_5,r_7]:List Int).map eI) oC ut rfl rfl rfl rfl rfl wz ?_)
 obtain ⟨r_9,hr_10,hF⟩:=bind_some hF
 refine aH (qJ hr_10) rfl hb117 rfl rfl rfl rfl wz (ae (vI r_9) wz rfl (ai ?_))
 obtain rfl:=ah hF
 exact aB (bu (.inr rfl) [(vI r_9)] ⟨rfl,trivial⟩ rfl rfl rfl)
theorem lM {l_1:(List Beat)} {r:Int} (hF:eu l_1=some r) :
  FnM Tryz.prog 100 [(vL Beat.enc l_1)] [] (vI r) []:=by
 refine FnM.of_wH ⟨Tryz.prog,69,[],[]⟩ rfl Tryz.func100 rfl rfl (lb_ rfl) (by kernel_rfl) ?_
 unfold eu at hF
 refine af (aa (ae (vI 0) wz rfl (ai (af (af (aa (ae (vL Beat.enc l_1) wz rfl (eY rG rfl wz (ae (vB (decide ((l_1.length:Int)>500))) wz rfl (ai ?_))))))))))
 rcases ak hF with⟨hc_2,hF⟩|⟨hc_2,hF⟩
 ·refine ay rfl hc_2 (af (aa (ae (vI 2) wz rfl (ai ?_))))
  obtain rfl:=ah hF
  exact aB (bu (.inr rfl) [(vI 2)] ⟨rfl,trivial⟩ rfl rfl rfl)
 ·refine aA rfl hc_2 (av (af (af (aa (ae (vL Beat.enc l_1) wz rfl (eY rG rfl wz (ae (vI 0) wz rfl (ai ?_))))))))
  obtain ⟨o_11,hj_12,hF⟩:=bind_some hF
  obtain ⟨hn_7,hj_12⟩:=bX hj_12
  refine aG (β:=(Unit)) (λ(s_8:Unit)=>([]:SL_)) (λ(s_8:Unit)=>([]:Hp)) (λp=>o_11 = .go p) ?_ ?_
  ·refine ax (bA (β:=Nat×(List Beat)×(Unit)) (λp=>(λ(k_3:Nat) (l_4:List Beat) (s_8:Unit)=>([(0,(vL Beat.enc l_1)),(8,(vL Beat.enc l_1)),(9,(vI (l_1.length:Int))),(10,(vI (k_3:Int)))]:SL_)) p.1 p.2.1 p.2.2) (λp=>(λ(k_3:Nat) (l_4:List Beat) (s_8:Unit)=>([]:Hp)) p.1 p.2.1 p.2.2) (λp=>dY (λk x s=>gX l_1 k x s) p.2.1 p.1 p.2.2=some o_11/\(l_1).drop p.1=p.2.1) (λp=>p.2.1.length) (0,l_1,()) ⟨hj_12,rfl⟩ rfl (aL rfl) ?_)
   rintro ⟨k_3,l_4,s_8⟩ ⟨hL_10,hD_6⟩
   dsimp only at hL_10 hD_6
   cases l_4 with
   | nil =>
    obtain rfl:=ah hL_10
    refine af (aa (ae (vB (decide ((k_3:Int)<(l_1.length:Int)))) wz rfl (ai ?_)))
    refine af (aA rfl (drop_nil hD_6) (aY ?_))
    exact bz (s_8) rfl rfl (aL rfl)
   | cons x_5 l_4 =>
    obtain ⟨c_,hc_9,hL_10⟩:=bind_some hL_10
    refine af (aa (ae (vB (decide ((k_3:Int)<(l_1.length:Int)))) wz rfl (ai ?_)))
    refine af (ay rfl (ek hD_6) (av ?_))
    unfold gX at hc_9
    refine af (ax (af (aa (ae (vI (k_3:Int)) wz rfl (fH oN rfl rfl (eU hD_6) rfl wz (cO iP oW rfl (.d (.agg (Beat.enc x_5))) rfl wz (gM 0 (.inl rfl) yc rfl wz (λn_13=>ae (vI (k_3:Int)) wz rfl (jE 0 il ft 0 iP rfl rfl [(vS x_5.Player),(vI x_5.At),(vI x_5.Clock)] rfl wz (ai (ax (af (aa (aJ gZ rfl 0 rfl wz (aK 0 0 il ft sz9 ag9 rfl rfl (vS x_5.Player) rfl wz ?_)))))))))))))))
    obtain ⟨r_14,hr_15,hc_9⟩:=bind_some hc_9
    refine aH (lV hr_15) rfl Eb rfl rfl rfl rfl wz (ae (vB (!r_14)) wz rfl (ae (vB (!r_14)) wz rfl (ai ?_)))
    rcases ak hc_9 with⟨hc_16,hc_9⟩|⟨hc_16,hc_9⟩
    ·refine ay rfl hc_16 (af (aa (ae (vI 5) wz rfl (ai ?_))))
     obtain rfl:=ah hc_9
     obtain rfl:=ah hL_10
     obtain rfl:=ah hF
     exact aB (bu (.inr rfl) [(vI 5)] ⟨rfl,trivial⟩ rfl rfl rfl)
    ·refine aA rfl hc_16 (af ?_)
     obtain ⟨v_17,h_18,hc_9⟩:=bind_some hc_9
     refine aG (β:=Unit) (λ_=>([(0,(vL Beat.enc l_1)),(3,(vI (k_3:Int))),(4,(.ref n_13 0 0)),(8,(vL Beat.enc l_1)),(9,(vI (l_1.length:Int))),(10,(vI (k_3:Int))),(20,(vB v_17))]:SL_)) (λ_=>([(n_13,some (.cells 3 [(vS x_5.Player),(vI x_5.At),(vI x_5.Clock)]))]:Hp)) (λ_=>True) ?_ ?_
     ·refine aa (aJ gY rfl 1 rfl wz (aK 0 0 il ft sz3 ag3 rfl rfl (vI x_5.At) rfl wz ?_))
      obtain ⟨r_19,hr_20,h_18⟩:=bind_some h_18
      refine aH (gy hr_20) rfl yG rfl rfl rfl rfl wz (ae (vB (!r_19)) wz rfl ?_)
      rcases ak h_18 with⟨hc_21,h_18⟩|⟨hc_21,h_18⟩
      ·refine aC rfl hc_21 wz (aj wa (aj wa (aj wa (ae (vB true) wz rfl (ae (vB true) wz rfl (ai ?_))))))
       obtain rfl:=ah h_18
       exact cu
      ·refine aC rfl hc_21 wz (aJ gm rfl 2 rfl wa (aK 0 0 il ft sz3 ag3 rfl rfl (vI x_5.Clock) rfl wa ?_))
       obtain ⟨r_22,hr_23,h_18⟩:=bind_some h_18
       refine aH (kI hr_23) rfl hb65 rfl rfl rfl rfl wa (ae (vB r_22) wz rfl (ae (vB r_22) wz rfl (ai ?_)))
       obtain rfl:=ah h_18
       exact cu
     ·rintro ⟨⟩ _ sl_ H_ hp_ hq_
      refine aQ _ hp_ hq_ ?_
      rcases ak hc_9 with⟨hc_24,hc_9⟩|⟨hc_24,hc_9⟩
      ·refine ay rfl hc_24 (af (aa (ae (vI 1) wz rfl (ai ?_))))
       obtain rfl:=ah hc_9
       obtain rfl:=ah hL_10
       obtain rfl:=ah hF
       exact aB (bu (.inr rfl) [(vI 1)] ⟨rfl,trivial⟩ rfl rfl rfl)
      ·refine aA rfl hc_24 (af ?_)
       obtain ⟨v_25,h_26,hc_9⟩:=bind_some hc_9
       refine aG (β:=Unit) (λ_=>([(0,(vL Beat.enc l_1)),(3,(vI (k_3:Int))),(4,(.ref n_13 0 0)),(8,(vL Beat.enc l_1)),(9,(vI (l_1.length:Int))),(10,(vI (k_3:Int))),(30,(vB v_25))]:SL_)) (λ_=>([(n_13,some (.cells 3 [(vS x_5.Player),(vI x_5.At),(vI x_5.Clock)]))]:Hp)) (λ_=>True) ?_ ?_
       ·refine bK (ae (vI (k_3:Int)) wz rfl (ae (vB (decide ((k_3:Int)>0))) wz rfl ?_))
        rcases ak h_26 with⟨hc_27,h_26⟩|⟨hc_27,h_26⟩
        ·refine aC rfl hc_27 wz (ae (vL Beat.enc l_1) wa rfl (ae (vI (k_3:Int)) wa rfl (ae (vI (w64 ((k_3:Int)-1))) wa rfl ?_)))
         obtain ⟨y_28,hy_29,h_26⟩:=bind_some h_26
         refine fH oN rfl rfl hy_29 rfl wa (cO iP oW rfl (.d (.agg (Beat.enc y_28))) rfl wa (aK 8 0 (.inr (by kernel_rfl)) (λ_ _ ag=>trivial) iP oW rfl rfl (.d (.agg (Beat.enc x_5))) rfl wa ?_))
         obtain ⟨r_30,hr_31,h_26⟩:=bind_some h_26
         refine aH (o6 hr_31) rfl hb130 rfl rfl rfl rfl wa (ae (vB (decide (r_30>=0))) wa rfl (ae (vB (decide (r_30>=0))) wz rfl (ae (vB (decide (r_30>=0))) wz rfl (ai ?_))))
         obtain rfl:=ah h_26
         exact cu
        ·refine aC rfl hc_27 wz (aj wa (aj wa (aj wa (aj wa (aj wa (aj wa (aj wa (aj wa (ae (vB false) wz rfl (ae (vB false) wz rfl (ai ?_)))))))))))
         obtain rfl:=ah h_26
         exact cu
       ·rintro ⟨⟩ _ sl_ H_ hp_ hq_
        refine aQ _ hp_ hq_ ?_
        rcases ak hc_9 with⟨hc_32,hc_9⟩|⟨hc_32,hc_9⟩
        ·refine ay rfl hc_32 (af (aa (ae (vI 7) wz rfl (ai ?_))))
         obtain rfl:=ah hc_9
         obtain rfl:=ah hL_10
         obtain rfl:=ah hF
         exact aB (bu (.inr rfl) [(vI 7)] ⟨rfl,trivial⟩ rfl rfl rfl)
        ·refine aA rfl hc_32 (af ?_)
         obtain ⟨v_33,h_34,hc_9⟩:=bind_some hc_9
         refine aG (β:=Unit) (λ_=>([(0,(vL Beat.enc l_1)),(8,(vL Beat.enc l_1)),(9,(vI (l_1.length:Int))),(10,(vI (k_3:Int))),(43,(vB v_33))]:SL_)) (λ_=>([(n_13,some (.cells 3 [(vS x_5.Player),(vI x_5.At),(vI x_5.Clock)]))]:Hp)) (λ_=>True) ?_ ?_
         ·refine bK (ae (vI (k_3:Int)) wz rfl (ae (vB (decide ((k_3:Int)>0))) wz rfl ?_))
          rcases ak h_34 with⟨hc_35,h_34⟩|⟨hc_35,h_34⟩
          ·refine aC rfl hc_35 wz (aJ gZ rfl 0 rfl wa (aK 4 0 (.inr (by kernel_rfl)) (λ_ _ ag=>trivial) sz9 ag9 rfl rfl (vS x_5.Player) rfl wa (ae (vL Beat.enc l_1) wa rfl (ae (vI (k_3:Int)) wa rfl (ae (vI (w64 ((k_3:Int)-1))) wa rfl ?_)))))
           obtain ⟨y_36,hy_37,h_34⟩:=bind_some h_34
           refine fH oN rfl rfl hy_37 rfl wa (kg gZ rfl [.str y_36.Player,.int .i64 y_36.At,.int .i64 y_36.Clock] rfl rfl wa (cO sz9 ag9 rfl (vS y_36.Player) rfl wa (ae (vB (sEq x_5.Player y_36.Player)) wa rfl (ae (vB (sEq x_5.Player y_36.Player)) wz rfl ?_))))
           rcases ak h_34 with⟨hc_38,h_34⟩|⟨hc_38,h_34⟩
           ·refine aC rfl hc_38 wz (aJ gm rfl 2 rfl wa (aK 15 0 (.inr (by kernel_rfl)) (λ_ _ ag=>⟨.inl ⟨rfl,rfl⟩,trivial⟩) sz3 ag3 rfl rfl (vI x_5.Clock) rfl wa (ae (vL Beat.enc l_1) wa rfl (ae (vI (k_3:Int)) wa rfl (ae (vI (w64 ((k_3:Int)-1))) wa rfl ?_)))))
            obtain ⟨y_39,hy_40,h_34⟩:=bind_some h_34
            refine fH oN rfl rfl hy_40 rfl wa (kg gm rfl [.int .i64 y_39.Clock] rfl rfl wa (cO sz3 ag3 rfl (vI y_39.Clock) rfl wa (ae (vB (decide (x_5.Clock<=y_39.Clock))) wa rfl (ae (vB (decide (x_5.Clock<=y_39.Clock))) wz rfl (ae (vB (decide (x_5.Clock<=y_39.Clock))) wz rfl (ai ?_))))))
            obtain rfl:=ah h_34
            exact cu
           ·refine aC rfl hc_38 wz (aj wa (aj wa (aj wa (aj wa (aj wa (aj wa (aj wa (aj wa (aj wa (ae (vB false) wz rfl (ae (vB false) wz rfl (ai ?_))))))))))))
            obtain rfl:=ah h_34
            exact cu
          ·refine aC rfl hc_35 wz (aj wa (aj wa (aj wa (aj wa (aj wa (aj wa (aj wa (aj wa (aj wa (ae (vB false) wz rfl (ae (vB false) wz rfl (aj wa (aj wa (aj wa (aj wa (aj wa (aj wa (aj wa (aj wa (aj wa (ae (vB false) wz rfl (ae (vB false) wz rfl (ai ?_)))))))))))))))))))))))
           obtain rfl:=ah h_34
           exact cu
         ·rintro ⟨⟩ _ sl_ H_ hp_ hq_
          refine aQ _ hp_ hq_ ?_
          rcases ak hc_9 with⟨hc_41,hc_9⟩|⟨hc_41,hc_9⟩
          ·refine ay rfl hc_41 (af (aa (ae (vI 16) wz rfl (ai ?_))))
           obtain rfl:=ah hc_9
           obtain rfl:=ah hL_10
           obtain rfl:=ah hF
           exact aB (bu (.inr rfl) [(vI 16)] ⟨rfl,trivial⟩ rfl rfl rfl)
          ·refine aA rfl hc_41 (av (aa (gW (dh hD_6 hn_7) wz rfl (ae (vI ((k_3+1:Nat):Int)) wz rfl (ai ?_)))))
           obtain rfl:=ah hc_9
           exact bf (k_3+1,l_4,()) ⟨hL_10,aU hD_6⟩ (ls_ _) rfl (aL rfl)
  ·rintro s_8 ho_ sl_ H_ hp_ hq_
   subst ho_
   refine aQ _ hp_ hq_ (af (aa (ae (vI 0) wz rfl (ai ?_))))
   obtain rfl:=ah hF
   exact aB (bu (.inr rfl) [(vI 0)] ⟨rfl,trivial⟩ rfl rfl rfl)
theorem nZ {l_1:(List Beat)} {player_2:ByteArray} {back_3:Bool} {r:(List Beat_)} (hF:iV l_1 player_2 back_3=some r) :
  FnM Tryz.prog 131 [(vL Beat.enc l_1),(vS player_2),(vB back_3)] [] (vL Beat_.enc r) []:=by
 refine FnM.of_wH ⟨Tryz.prog,41,[],[]⟩ rfl Tryz.func131 rfl rfl (lb_ rfl) (by kernel_rfl) ?_
 unfold iV at hF
 refine af (aa (ae .nil wz rfl (ai (af (aa (ae .nil wz rfl (ai (af (af (aa (ae (vL Beat.enc l_1) wz rfl (eY rG rfl wz (ae (vI 0) wz rfl (ai (lJ (λn_10 => ?_))))))))))))))))
 obtain ⟨o_15,hj_16,hF⟩:=bind_some hF
 obtain ⟨hn_8,hj_16⟩:=bX hj_16
 refine aG (β:=((List Beat_))×Nm) (λp=>(λ(s_9:List Beat_) (n_12:Nm)=>([(7,(gV n_12 2 s_9))]:SL_)) p.1 p.2) (λp=>(λ(s_9:List Beat_) (n_12:Nm)=>([(n_12,gB 2 Beat_.enc s_9)]:Hp)) p.1 p.2) (λp=>o_15 = .go p.1) ?_ ?_
 ·refine ax (bA (β:=Nat×(List Beat)×((List Beat_))×Nm) (λp=>(λ(k_4:Nat) (l_5:List Beat) (s_9:List Beat_) (n_12:Nm)=>([(1,(vS player_2)),(2,(vB back_3)),(7,(gV n_12 2 s_9)),(10,(vL Beat.enc l_1)),(11,(vI (l_1.length:Int))),(12,(vI (k_4:Int)))]:SL_)) p.1 p.2.1 p.2.2.1 p.2.2.2) (λp=>(λ(k_4:Nat) (l_5:List Beat) (s_9:List Beat_) (n_12:Nm)=>([(n_12,gB 2 Beat_.enc s_9)]:Hp)) p.1 p.2.1 p.2.2.1 p.2.2.2) (λp=>dY (λk x s=>fM player_2 back_3 k x s) p.2.1 p.1 p.2.2.1=some o_15/\(l_1).drop p.1=p.2.1) (λp=>p.2.1.length) (0,l_1,([]:List Beat_),n_10) ⟨hj_16,rfl⟩ rfl (aL rfl) ?_)
  rintro ⟨k_4,l_5,s_9,n_12⟩ ⟨hL_14,hD_7⟩
  dsimp only at hL_14 hD_7
  cases l_5 with
  | nil =>
   obtain rfl:=ah hL_14
   refine af (aa (ae (vB (decide ((k_4:Int)<(l_1.length:Int)))) wz rfl (ai ?_)))
   refine af (aA rfl (drop_nil hD_7) (aY ?_))
   exact bz (s_9,n_12) rfl rfl (aL rfl)
  | cons x_6 l_5 =>
   obtain ⟨c_,hc_13,hL_14⟩:=bind_some hL_14
   refine af (aa (ae (vB (decide ((k_4:Int)<(l_1.length:Int)))) wz rfl (ai ?_)))
   refine af (ay rfl (ek hD_7) (av ?_))
   unfold fM at hc_13
   refine af (ax (af (aa (fH oN rfl rfl (eU hD_7) rfl wz (cO iP oW rfl (.d (.agg (Beat.enc x_6))) rfl wz (gM 0 (.inl rfl) yc rfl wz (λn_17=>jE 0 il ft 1 iP rfl rfl [(vS x_6.Player),(vI x_6.At),(vI x_6.Clock)] rfl wz (ai (ax (af (aa (aJ gZ rfl 0 rfl wz (aK 0 1 il ft sz9 ag9 rfl rfl (vS x_6.Player) rfl wz (ae (vS player_2) wz rfl (ae (vB (sNe x_6.Player player_2)) wz rfl (ae (vB (sNe x_6.Player player_2)) wz rfl (ai ?_)))))))))))))))))
   obtain ⟨v_18,h_19,hc_13⟩:=bind_some hc_13
   refine aG (β:=Nm) (λ(n_20:Nm)=>([(1,(vS player_2)),(2,(vB back_3)),(7,(gV n_20 2 v_18)),(10,(vL Beat.enc l_1)),(11,(vI (l_1.length:Int))),(12,(vI (k_4:Int)))]:SL_)) (λ(n_20:Nm)=>([(n_20,gB 2 Beat_.enc v_18),(n_17,some (.cells 3 [(vS x_6.Player),(vI x_6.At),(vI x_6.Clock)]))]:Hp)) (λ_=>True) ?_ ?_
   ·rcases ak h_19 with⟨hc_21,h_19⟩|⟨hc_21,h_19⟩
    ·refine ay rfl hc_21 (av ?_)
     obtain rfl:=ah h_19
     exact bz n_12 trivial rfl (aL rfl)
    ·refine aA rfl hc_21 (af (aa (ae (vB back_3) wz rfl (ae (vB back_3) wz rfl (ai ?_)))))
     rcases ak h_19 with⟨hc_22,h_19⟩|⟨hc_22,h_19⟩
     ·refine ay rfl hc_22 (aa (ae (gV n_12 2 s_9) wz rfl (aJ gY rfl 1 rfl wz (aK 0 1 il ft sz3 ag3 rfl rfl (vI x_6.At) rfl wz (aJ gm rfl 2 rfl wz (aK 0 1 il ft sz3 ag3 rfl rfl (vI x_6.Clock) rfl wz (ae (.d (.agg (Beat_.enc (⟨x_6.At,x_6.Clock⟩:Beat_)))) wz (by kernel_rfl) (fw (([(⟨x_6.At,x_6.Clock⟩:Beat_)]:List Beat_).map Beat_.enc) sw ez151 rfl rfl rfl rfl rfl wz ?_))))))))
      obtain ⟨a_23,hz_24,h_19⟩:=bind_some h_19
      refine jC 0 il ft (i:=0) DN DN yC z179 rfl (by decide) by179 (by decide) (λ_=>rfl) rfl rfl rfl hz_24 wz (λn_25=>ae (gV n_25 2 a_23) wz rfl (ai ?_))
      obtain rfl:=ah h_19
      exact bz n_25 trivial rfl (aL rfl)
     ·refine aA rfl hc_22 (aa (ae (gV n_12 2 s_9) wz rfl (aJ gm rfl 2 rfl wz (aK 0 1 il ft sz3 ag3 rfl rfl (vI x_6.Clock) rfl wz (aJ gY rfl 1 rfl wz (aK 0 1 il ft sz3 ag3 rfl rfl (vI x_6.At) rfl wz (ae (.d (.agg (Beat_.enc (⟨x_6.Clock,x_6.At⟩:Beat_)))) wz (by kernel_rfl) (fw (([(⟨x_6.Clock,x_6.At⟩:Beat_)]:List Beat_).map Beat_.enc) sw ez151 rfl rfl rfl rfl rfl wz ?_))))))))
      obtain ⟨a_26,hz_27,h_19⟩:=bind_some h_19
      refine jC 0 il ft (i:=0) DN DN yC z179 rfl (by decide) by179 (by decide) (λ_=>rfl) rfl rfl rfl hz_27 wz (λn_28=>ae (gV n_28 2 a_26) wz rfl (ai ?_))
      obtain rfl:=ah h_19
      exact bz n_28 trivial rfl (aL rfl)
   ·rintro n_20 _ sl_ H_ hp_ hq_
    refine aQ _ hp_ hq_ (aa (gW (dh hD_7 hn_8) wz rfl (ae (vI ((k_4+1:Nat):Int)) wz rfl (ai ?_))))
    obtain rfl:=ah hc_13
    exact bf (k_4+1,l_5,v_18,n_20) ⟨hL_14,aU hD_7⟩ (ls_ _) rfl (aL rfl)
 ·rintro ⟨s_9,n_12⟩ ho_ sl_ H_ hp_ hq_
  subst ho_
  refine aQ _ hp_ hq_ (af (aa (ae (gV n_12 2 s_9) wz rfl (ae (gV n_12 2 s_9) wz rfl (ai (iR 0 rfl (dS 6 0 rfl rfl (dS 7 0 rfl rfl (dS 40 0 rfl rfl ?_)))))))))
  obtain rfl:=ah hF
  exact aB (bu (.inr rfl) [(vL Beat_.enc s_9)] ⟨rfl,trivial⟩ rfl rfl rfl)
theorem oP {l_1:(List Beat_)} {n_2:Int} {r:Int×Int} (hF:gH l_1 n_2=some r) :
  FnM Tryz.prog 132 [(vL Beat_.enc l_1),(vI n_2)] [] (.tup [(vI r.1),(vI r.2)]) []:=by
 refine FnM.of_wH ⟨Tryz.prog,108,[],[]⟩ rfl Tryz.func132 rfl rfl (lb_ rfl) (by kernel_rfl) ?_
 unfold gH at hF
 refine af (aa (ae (vI 0) wz rfl (ae (vI 0) wz rfl (ai (af (af (aa (ae (vL Beat_.enc l_1) wz rfl (eY F8 rfl wz (ae (vB ((l_1.length:Int)==0)) wz rfl (ai ?_)))))))))))
 rcases ak hF with⟨hc_3,hF⟩|⟨hc_3,hF⟩
 ·refine ay rfl hc_3 (af (aa (ae (vI 0) wz rfl (ae (vI 8) wz rfl (ai ?_)))))
  obtain rfl:=ah hF
  exact aB (bu (.inr rfl) [(vI 0),(vI 8)] ⟨rfl,⟨rfl,trivial⟩⟩ rfl rfl rfl)
 ·refine aA rfl hc_3 (av (af (aa (ae (vI 0) wz rfl (ai (af ?_))))))
  obtain ⟨o_12,hj_13,hF⟩:=bind_some hF
  obtain ⟨nq_51,hj_13⟩:=dM hj_13
  refine aG (β:=(Int)) (λ(s_9:Int)=>([(0,(vL Beat_.enc l_1)),(1,(vI n_2)),(6,(vI s_9))]:SL_)) (λ(s_9:Int)=>([]:Hp)) (λp=>o_12 = .go p) ?_ ?_
  ·refine ax (bA (β:=Nat×(Int)) (λp=>(λ(k_4:Nat) (s_9:Int)=>([(0,(vL Beat_.enc l_1)),(1,(vI n_2)),(6,(vI s_9))]:SL_)) p.1 p.2) (λp=>(λ(k_4:Nat) (s_9:Int)=>([]:Hp)) p.1 p.2) (λp=>bL (λs=>fe l_1 n_2 s) p.1 p.2=some o_12) (λp=>p.1) (nq_51,0) hj_13 rfl (aL rfl) ?_)
   rintro ⟨k_4,s_9⟩ hL_11
   dsimp only at hL_11
   cases k_4 with
   | zero=>cases hL_11
   | succ k_4 =>
    obtain ⟨c_,hc_10,hL_11⟩:=bind_some hL_11
    unfold fe at hc_10
    refine af (af ?_)
    obtain ⟨v_14,h_15,hc_10⟩:=bind_some hc_10
    refine aG (β:=Unit) (λ_=>([(0,(vL Beat_.enc l_1)),(1,(vI n_2)),(6,(vI s_9)),(25,(vB v_14))]:SL_)) (λ_=>([]:Hp)) (λ_=>True) ?_ ?_
    ·refine aa (ae (vI s_9) wz rfl (ae (vL Beat_.enc l_1) wz rfl (eY F8 rfl wz (ae (vB (decide (s_9<(l_1.length:Int)))) wz rfl ?_))))
     rcases ak h_15 with⟨hc_16,h_15⟩|⟨hc_16,h_15⟩
     ·refine aC rfl hc_16 wz (ae (vL Beat_.enc l_1) wa rfl (ae (vI s_9) wa rfl ?_))
      obtain ⟨y_17,hy_18,h_15⟩:=bind_some h_15
      refine fH sw rfl rfl hy_18 rfl wa (kg mW rfl [.int .i64 y_17.f_from,.int .i64 y_17.f_to] rfl rfl wa (cO sz3 ag3 rfl (vI y_17.f_from) rfl wa (ae (vI n_2) wa rfl (ae (vB (decide (y_17.f_from<=n_2))) wa rfl (ae (vB (decide (y_17.f_from<=n_2))) wz rfl (ai ?_))))))
      obtain rfl:=ah h_15
      exact cu
     ·refine aC rfl hc_16 wz (aj wa (aj wa (aj wa (aj wa (aj wa (aj wa (aj wa (ae (vB false) wz rfl (ai ?_)))))))))
      obtain rfl:=ah h_15
      exact cu
    ·rintro ⟨⟩ _ sl_ H_ hp_ hq_
     refine aQ _ hp_ hq_ ?_
     rcases ak hc_10 with⟨hc_19,hc_10⟩|⟨hc_19,hc_10⟩
     ·refine ay rfl hc_19 (av (ax (aa (ae (vI s_9) wz rfl (ae (vI (w64 (s_9+1))) wz rfl (ae (vI (w64 (s_9+1))) wz rfl (ai ?_)))))))
      obtain rfl:=ah hc_10
      exact bf (k_4,(w64 (s_9+1))) hL_11 (ls_ _) rfl (aL rfl)
     ·refine aA rfl hc_19 (aY ?_)
      obtain rfl:=ah hc_10
      obtain rfl:=ah hL_11
      exact bz (s_9) rfl rfl (aL rfl)
  ·rintro s_9 ho_ sl_ H_ hp_ hq_
   subst ho_
   refine aQ _ hp_ hq_ (af (aa (ae (vI 0) wz rfl (ai (af (ax (af (aa (ae (vI s_9) wz rfl (ae (vB (s_9==0)) wz rfl (ae (vB (s_9==0)) wz rfl (ai ?_))))))))))))
   rcases ak hF with⟨hc_20,hF⟩|⟨hc_20,hF⟩
   ·refine ay rfl hc_20 (bK (ae (vL Beat_.enc l_1) wz rfl ?_))
    obtain ⟨y_21,hy_22,hF⟩:=bind_some hF
    refine fH sw rfl rfl hy_22 rfl wz (kg oh rfl [.int .i64 y_21.f_to] rfl rfl wz (cO sz3 ag3 rfl (vI y_21.f_to) rfl wz (ae (vL Beat_.enc l_1) wz rfl ?_)))
    obtain ⟨y_23,hy_24,hF⟩:=bind_some hF
    refine fH sw rfl rfl hy_24 rfl wz (kg mW rfl [.int .i64 y_23.f_from,.int .i64 y_23.f_to] rfl rfl wz (cO sz3 ag3 rfl (vI y_23.f_from) rfl wz (ae (vI n_2) wz rfl (ae (vI (w64 (y_23.f_from-n_2))) wz rfl (ae (vI (w64 (y_21.f_to-(w64 (y_23.f_from-n_2))))) wz rfl (ae (vI (w64 (y_21.f_to-(w64 (y_23.f_from-n_2))))) wz rfl (ai (af (af (aa (ae (vI (w64 (y_21.f_to-(w64 (y_23.f_from-n_2))))) wz rfl ?_)))))))))))
    obtain ⟨r_25,hr_26,hF⟩:=bind_some hF
    refine aH (gy hr_26) rfl yG rfl rfl rfl rfl wz (ae (vB (!r_25)) wz rfl (ai ?_))
    rcases ak hF with⟨hc_27,hF⟩|⟨hc_27,hF⟩
    ·refine ay rfl hc_27 (af (aa (ae (vI 0) wz rfl (ae (vI 11) wz rfl (ai ?_)))))
     obtain rfl:=ah hF
     exact aB (bu (.inr rfl) [(vI 0),(vI 11)] ⟨rfl,⟨rfl,trivial⟩⟩ rfl rfl rfl)
    ·refine aA rfl hc_27 (av (af (aa (ae (vI (w64 (y_21.f_to-(w64 (y_23.f_from-n_2))))) wz rfl (ae (vI (w64 (y_21.f_to-(w64 (y_23.f_from-n_2))))) wz rfl (ae (vI 0) wz rfl (ai ?_)))))))
     obtain rfl:=ah hF
     exact aB (bu (.inr rfl) [(vI (w64 (y_21.f_to-(w64 (y_23.f_from-n_2))))),(vI 0)] ⟨rfl,⟨rfl,trivial⟩⟩ rfl rfl rfl)
   ·refine aA rfl hc_20 (af (aa (ae (vI s_9) wz rfl (ae (vL Beat_.enc l_1) wz rfl (eY F8 rfl wz (ae (vB (s_9==(l_1.length:Int))) wz rfl (ae (vB (s_9==(l_1.length:Int))) wz rfl (ai ?_))))))))
    rcases ak hF with⟨hc_28,hF⟩|⟨hc_28,hF⟩
    ·refine ay rfl hc_28 (bK (ae (vL Beat_.enc l_1) wz rfl (ae (vI s_9) wz rfl (ae (vI (w64 (s_9-1))) wz rfl ?_))))
     obtain ⟨y_29,hy_30,hF⟩:=bind_some hF
     refine fH sw rfl rfl hy_30 rfl wz (kg oh rfl [.int .i64 y_29.f_to] rfl rfl wz (cO sz3 ag3 rfl (vI y_29.f_to) rfl wz (ae (vI n_2) wz rfl (ae (vI (w64 (y_29.f_to+n_2))) wz rfl (ae (vL Beat_.enc l_1) wz rfl (ae (vI s_9) wz rfl (ae (vI (w64 (s_9-1))) wz rfl ?_)))))))
     obtain ⟨y_31,hy_32,hF⟩:=bind_some hF
     refine fH sw rfl rfl hy_32 rfl wz (kg mW rfl [.int .i64 y_31.f_from,.int .i64 y_31.f_to] rfl rfl wz (cO sz3 ag3 rfl (vI y_31.f_from) rfl wz (ae (vI (w64 ((w64 (y_29.f_to+n_2))-y_31.f_from))) wz rfl (ae (vI (w64 ((w64 (y_29.f_to+n_2))-y_31.f_from))) wz rfl (ai (af (af (aa (ae (vI (w64 ((w64 (y_29.f_to+n_2))-y_31.f_from))) wz rfl ?_)))))))))
     obtain ⟨r_33,hr_34,hF⟩:=bind_some hF
     refine aH (gy hr_34) rfl yG rfl rfl rfl rfl wz (ae (vB (!r_33)) wz rfl (ai ?_))
     rcases ak hF with⟨hc_35,hF⟩|⟨hc_35,hF⟩
     ·refine ay rfl hc_35 (af (aa (ae (vI 0) wz rfl (ae (vI 11) wz rfl (ai (aQ (H0:=([]:Hp)) ([(4,(vI 0)),(5,(vI 11))]:SL_) (by kernel_rfl) (tL (by kernel_rfl)) ?_))))))
      obtain rfl:=ah hF
      exact aB (bu (.inr rfl) [(vI 0),(vI 11)] ⟨rfl,⟨rfl,trivial⟩⟩ rfl rfl rfl)
     ·refine aA rfl hc_35 (av (af (aa (ae (vI (w64 ((w64 (y_29.f_to+n_2))-y_31.f_from))) wz rfl (ae (vI (w64 ((w64 (y_29.f_to+n_2))-y_31.f_from))) wz rfl (ae (vI 0) wz rfl (ai (aQ (H0:=([]:Hp)) ([(4,(vI (w64 ((w64 (y_29.f_to+n_2))-y_31.f_from)))),(5,(vI 0))]:SL_) (by kernel_rfl) (tL (by kernel_rfl)) ?_))))))))
      obtain rfl:=ah hF
      exact aB (bu (.inr rfl) [(vI (w64 ((w64 (y_29.f_to+n_2))-y_31.f_from))),(vI 0)] ⟨rfl,⟨rfl,trivial⟩⟩ rfl rfl rfl)
    ·refine aA rfl hc_28 (af (bK (ae (vL Beat_.enc l_1) wz rfl (ae (vI s_9) wz rfl (ae (vI (w64 (s_9-1))) wz rfl ?_)))))
     obtain ⟨y_36,hy_37,hF⟩:=bind_some hF
     refine fH sw rfl rfl hy_37 rfl wz (cO yC ag179 rfl (.d (.agg (Beat_.enc y_36))) rfl wz (ae (vL Beat_.enc l_1) wz rfl (ae (vI s_9) wz rfl ?_)))
     obtain ⟨y_38,hy_39,hF⟩:=bind_some hF
     refine fH sw rfl rfl hy_39 rfl wz (cO yC ag179 rfl (.d (.agg (Beat_.enc y_38))) rfl wz (gM 9 (.inr (by kernel_rfl)) z179 rfl wz (λn_40=>gM 10 (.inr (by kernel_rfl)) z179 rfl wz (λn_41=>jE 11 (.inr (by kernel_rfl)) (λ_ _ ag=>⟨.inr (.inr (by kernel_rfl)),⟨.inr (.inr (by kernel_rfl)),trivial⟩⟩) 0 yC rfl rfl [(vI y_36.f_from),(vI y_36.f_to)] rfl wz (jE 12 (.inr (by kernel_rfl)) (λ_ _ ag=>⟨.inr (.inr (by kernel_rfl)),⟨.inr (.inr (by kernel_rfl)),⟨.inr (.inr (by kernel_rfl)),trivial⟩⟩⟩) 1 yC rfl rfl [(vI y_38.f_from),(vI y_38.f_to)] rfl wz (ai (af (af ?_))))))))
     obtain ⟨v_42,h_43,hF⟩:=bind_some hF
     refine aG (β:=Unit) (λ_=>([(1,(vI n_2)),(8,(.ref n_40 0 0)),(9,(.ref n_41 0 0)),(50,(vB v_42))]:SL_)) (λ_=>([(n_40,some (.cells 2 [(vI y_36.f_from),(vI y_36.f_to)])),(n_41,some (.cells 2 [(vI y_38.f_from),(vI y_38.f_to)]))]:Hp)) (λ_=>True) ?_ ?_
     ·refine aa (aJ mW rfl 0 rfl wz (aK 0 1 il ft sz3 ag3 rfl rfl (vI y_38.f_from) rfl wz (aJ mW rfl 0 rfl wz (aK 0 0 il ft sz3 ag3 rfl rfl (vI y_36.f_from) rfl wz (ae (vI (w64 (y_38.f_from-y_36.f_from))) wz rfl (ae (vB (decide ((w64 (y_38.f_from-y_36.f_from))>2592000000))) wz rfl ?_))))))
      rcases ak h_43 with⟨hc_44,h_43⟩|⟨hc_44,h_43⟩
      ·refine aC rfl hc_44 wz (aj wa (aj wa (aj wa (aj wa (aj wa (aj wa (ae (vB true) wz rfl (ai ?_))))))))
       obtain rfl:=ah h_43
       exact cu
      ·refine aC rfl hc_44 wz (aJ oh rfl 1 rfl wa (aK 0 1 il ft sz3 ag3 rfl rfl (vI y_38.f_to) rfl wa (aJ oh rfl 1 rfl wa (aK 0 0 il ft sz3 ag3 rfl rfl (vI y_36.f_to) rfl wa (ae (vI (w64 (y_38.f_to-y_36.f_to))) wa rfl (ae (vB (decide ((w64 (y_38.f_to-y_36.f_to))>2592000000))) wa rfl (ae (vB (decide ((w64 (y_38.f_to-y_36.f_to))>2592000000))) wz rfl (ai ?_))))))))
       obtain rfl:=ah h_43
       exact cu
     ·rintro ⟨⟩ _ sl_ H_ hp_ hq_
      refine aQ _ hp_ hq_ ?_
      rcases ak hF with⟨hc_45,hF⟩|⟨hc_45,hF⟩
      ·refine ay rfl hc_45 (af (aa (ae (vI 0) wz rfl (ae (vI 2) wz rfl (ai ?_)))))
       obtain rfl:=ah hF
       exact aB (bu (.inr rfl) [(vI 0),(vI 2)] ⟨rfl,⟨rfl,trivial⟩⟩ rfl rfl rfl)
      ·refine aA rfl hc_45 (av (bK (aJ oh rfl 1 rfl wz (aK 1 0 (.inr (by kernel_rfl)) (λ_ _ ag=>trivial) sz3 ag3 rfl rfl (vI y_36.f_to) rfl wz (ae (vI n_2) wz rfl (aJ mW rfl 0 rfl wz (aK 4 0 (.inr (by kernel_rfl)) (λ_ _ ag=>⟨.inl ⟨rfl,rfl⟩,trivial⟩) sz3 ag3 rfl rfl (vI y_36.f_from) rfl wz (ae (vI (w64 (n_2-y_36.f_from))) wz rfl (aJ oh rfl 1 rfl wz (aK 7 1 (.inr (by kernel_rfl)) (λ_ _ ag=>⟨.inl ⟨rfl,rfl⟩,⟨.inl ⟨rfl,rfl⟩,trivial⟩⟩) sz3 ag3 rfl rfl (vI y_38.f_to) rfl wz (aJ oh rfl 1 rfl wz (aK 9 0 (.inr (by kernel_rfl)) (λ_ _ ag=>⟨.inl ⟨rfl,rfl⟩,⟨.inl ⟨rfl,rfl⟩,⟨.inl ⟨rfl,rfl⟩,trivial⟩⟩⟩) sz3 ag3 rfl rfl (vI y_36.f_to) rfl wz (ae (vI (w64 (y_38.f_to-y_36.f_to))) wz rfl (ae (vI (w64 ((w64 (n_2-y_36.f_from))*(w64 (y_38.f_to-y_36.f_to))))) wz rfl (aJ mW rfl 0 rfl wz (aK 13 1 (.inr (by kernel_rfl)) (λ_ _ ag=>⟨.inl ⟨rfl,rfl⟩,⟨.inl ⟨rfl,rfl⟩,⟨.inl ⟨rfl,rfl⟩,⟨.inl ⟨rfl,rfl⟩,trivial⟩⟩⟩⟩) sz3 ag3 rfl rfl (vI y_38.f_from) rfl wz (aJ mW rfl 0 rfl wz (aK 15 0 (.inr (by kernel_rfl)) (λ_ _ ag=>⟨.inl ⟨rfl,rfl⟩,⟨.inl ⟨rfl,rfl⟩,⟨.inl ⟨rfl,rfl⟩,⟨.inl ⟨rfl,rfl⟩,⟨.inl ⟨rfl,rfl⟩,trivial⟩⟩⟩⟩⟩) sz3 ag3 rfl rfl (vI y_36.f_from) rfl wz (ae (vI (w64 (y_38.f_from-y_36.f_from))) wz rfl ?_)))))))))))))))))))
       obtain ⟨q_46,hz_47,hF⟩:=bind_some hF
       refine Gg rfl rfl hz_47 wz (ae (vI (w64 (y_36.f_to+q_46))) wz rfl (ae (vI (w64 (y_36.f_to+q_46))) wz rfl (ai (af (af (aa (ae (vI (w64 (y_36.f_to+q_46))) wz rfl ?_)))))))
       obtain ⟨r_48,hr_49,hF⟩:=bind_some hF
       refine aH (gy hr_49) rfl yG rfl rfl rfl rfl wz (ae (vB (!r_48)) wz rfl (ai ?_))
       rcases ak hF with⟨hc_50,hF⟩|⟨hc_50,hF⟩
       ·refine ay rfl hc_50 (af (aa (ae (vI 0) wz rfl (ae (vI 11) wz rfl (ai ?_)))))
        obtain rfl:=ah hF
        exact aB (bu (.inr rfl) [(vI 0),(vI 11)] ⟨rfl,⟨rfl,trivial⟩⟩ rfl rfl rfl)
       ·refine aA rfl hc_50 (av (af (aa (ae (vI (w64 (y_36.f_to+q_46))) wz rfl (ae (vI (w64 (y_36.f_to+q_46))) wz rfl (ae (vI 0) wz rfl (ai ?_)))))))
        obtain rfl:=ah hF
        exact aB (bu (.inr rfl) [(vI (w64 (y_36.f_to+q_46))),(vI 0)] ⟨rfl,⟨rfl,trivial⟩⟩ rfl rfl rfl)
theorem qA {x_1:Placed} {y_2:Placed} {r:Int} (hF:ic x_1 y_2=some r) :
  FnM Tryz.prog 134 [(.d (.agg (Placed.enc x_1))),(.d (.agg (Placed.enc y_2)))] [] (vI r) []:=by
 refine FnM.of_wH ⟨Tryz.prog,10,[],[]⟩ rfl Tryz.func134 rfl rfl (lb_ rfl) (by kernel_rfl) ?_
 unfold ic at hF
 refine af (aa (kN 0 (.inl rfl) [(vI x_1.f_i),(vI x_1.f_at)] rfl rfl wz (λn_3=>kN 0 (.inl rfl) [(vI y_2.f_i),(vI y_2.f_at)] rfl rfl wz (λn_4=>ae (vI 0) wz rfl (ai (af (aa (aJ vw rfl 1 rfl wz (aK 0 0 il ft sz3 ag3 rfl rfl (vI x_1.f_at) rfl wz (aJ vw rfl 1 rfl wz (aK 0 1 il ft sz3 ag3 rfl rfl (vI y_2.f_at) rfl wz ?_)))))))))))
 obtain ⟨r_5,hr_6,hF⟩:=bind_some hF
 refine aH (jN hr_6) rfl F7 rfl rfl rfl rfl wz (ae (vI r_5) wz rfl (ai ?_))
 obtain rfl:=ah hF
 exact aB (bu (.inr rfl) [(vI r_5)] ⟨rfl,trivial⟩ rfl rfl rfl)
end Go.Proofs.YtdenjndllgahgaaGreatDoor.Law

