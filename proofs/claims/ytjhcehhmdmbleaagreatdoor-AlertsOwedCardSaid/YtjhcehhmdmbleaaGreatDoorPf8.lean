/-
 The machine computes these plain functions (written by a program of ours).
-/
import Derived.Test.YtjhcehhmdmbleaaGreatDoorFacts
import Derived.Test.YtjhcehhmdmbleaaGreatDoorDefs
import Derived.Test.YtjhcehhmdmbleaaGreatDoorPf7
open Go Go.Eng Go.Proofs
namespace Go.Proofs.YtjhcehhmdmbleaaGreatDoor.Law
set_option maxRecDepth 100000
set_option linter.unusedVariables false
set_option maxHeartbeats 1000000
theorem yR {l_1:(List Int)} {r:Bool} (hF:oD l_1=some r) :
  FnM Tryz.prog 8 [(vL eI l_1)] [] (vB r) []:=by
 refine FnM.of_wH ⟨Tryz.prog,203,[],[]⟩ rfl Tryz.func8 rfl rfl (lb_ rfl) (by kernel_rfl) ?_
 unfold oD at hF
 refine af (aa (ae (vB false) wz rfl (ai (af (aa (ae (vL eI l_1) wz rfl (ae (.d (.agg (Stream.enc (⟨l_1,0⟩:Stream)))) wz (by kernel_rfl) (dW 0 (.inl rfl) [(vL eI l_1),(vI 0)] rfl rfl wz (λn_2=>ae (.ref n_2 0 0) wz rfl (ai (af (aa (ae (.ref n_2 0 0) wz rfl ?_)))))))))))))
 obtain ⟨r_3,hr_4,hF⟩:=bind_some hF
 refine aS 0 [0] il ft (xK hr_4) rfl hb18 rfl (by kernel_rfl) (by kernel_rfl) (by kernel_rfl) (by kernel_rfl) (by kernel_rfl) (by kernel_rfl) (by kernel_rfl) (by decide) (by kernel_rfl) wz (vL Alert.enc r_3.1) (by kernel_rfl) ([(n_2,some (.cells 2 [(vL eI r_3.2.L),(vI r_3.2.f_at)]))]:Hp) (by kernel_rfl) (ae (.ref n_2 0 0) wz rfl ?_)
 obtain ⟨r_6,hr_7,hF⟩:=bind_some hF
 refine aS 0 [0] il ft (x9 hr_7) rfl hb22 rfl (by kernel_rfl) (by kernel_rfl) (by kernel_rfl) (by kernel_rfl) (by kernel_rfl) (by kernel_rfl) (by kernel_rfl) (by decide) (by kernel_rfl) wz (vL Post.enc r_6.1) (by kernel_rfl) ([(n_2,some (.cells 2 [(vL eI r_6.2.L),(vI r_6.2.f_at)]))]:Hp) (by kernel_rfl) (ae (.ref n_2 0 0) wz rfl ?_)
 obtain ⟨r_9,hr_10,hF⟩:=bind_some hF
 refine aS 0 [0] il ft (oZ hr_10) rfl hb46 rfl (by kernel_rfl) (by kernel_rfl) (by kernel_rfl) (by kernel_rfl) (by kernel_rfl) (by kernel_rfl) (by kernel_rfl) (by decide) (by kernel_rfl) wz (vL Receipt.enc r_9.1) (by kernel_rfl) ([(n_2,some (.cells 2 [(vL eI r_9.2.L),(vI r_9.2.f_at)]))]:Hp) (by kernel_rfl) (ae (.ref n_2 0 0) wz rfl ?_)
 obtain ⟨r_12,hr_13,hF⟩:=bind_some hF
 refine aS 0 [0] il ft (oZ hr_13) rfl hb46 rfl (by kernel_rfl) (by kernel_rfl) (by kernel_rfl) (by kernel_rfl) (by kernel_rfl) (by kernel_rfl) (by kernel_rfl) (by decide) (by kernel_rfl) wz (vL Receipt.enc r_12.1) (by kernel_rfl) ([(n_2,some (.cells 2 [(vL eI r_12.2.L),(vI r_12.2.f_at)]))]:Hp) (by kernel_rfl) (ae (vL Alert.enc r_3.1) wz rfl (ae (vL Post.enc r_6.1) wz rfl (ae (vL Receipt.enc r_9.1) wz rfl (ae (vL Receipt.enc r_12.1) wz rfl (ai (af (aa (ae (.ref n_2 0 0) wz rfl (dQ (([0,5,10,30,(-1),2592000001]:List Int).map eI) sQ zW rfl rfl rfl rfl rfl wz ?_)))))))))
 obtain ⟨r_15,hr_16,hF⟩:=bind_some hF
 refine aS 0 [0] il ft (gm hr_16) rfl GG rfl (by kernel_rfl) (by kernel_rfl) (by kernel_rfl) (by kernel_rfl) (by kernel_rfl) (by kernel_rfl) (by kernel_rfl) (by decide) (by kernel_rfl) wz (vI r_15.1) (by kernel_rfl) ([(n_2,some (.cells 2 [(vL eI r_15.2.L),(vI r_15.2.f_at)]))]:Hp) (by kernel_rfl) (ae (.ref n_2 0 0) wz rfl (dQ (([0,5,10,20,30,60,(-1)]:List Int).map eI) sQ zW rfl rfl rfl rfl rfl wz ?_))
 obtain ⟨r_18,hr_19,hF⟩:=bind_some hF
 refine aS 0 [0] il ft (gm hr_19) rfl GG rfl (by kernel_rfl) (by kernel_rfl) (by kernel_rfl) (by kernel_rfl) (by kernel_rfl) (by kernel_rfl) (by kernel_rfl) (by decide) (by kernel_rfl) wz (vI r_18.1) (by kernel_rfl) ([(n_2,some (.cells 2 [(vL eI r_18.2.L),(vI r_18.2.f_at)]))]:Hp) (by kernel_rfl) (ae (.ref n_2 0 0) wz rfl (dQ (([(⟨#[97,97]⟩:ByteArray),(⟨#[97,98]⟩:ByteArray),(⟨#[97,99]⟩:ByteArray),(⟨#[122,122]⟩:ByteArray)]:List ByteArray).map eS) jZ qp rfl rfl rfl rfl rfl wz ?_))
 obtain ⟨r_21,hr_22,hF⟩:=bind_some hF
 refine aS 0 [0] il ft (eu hr_22) rfl DF rfl (by kernel_rfl) (by kernel_rfl) (by kernel_rfl) (by kernel_rfl) (by kernel_rfl) (by kernel_rfl) (by kernel_rfl) (by decide) (by kernel_rfl) wz (vS r_21.1) (by kernel_rfl) ([(n_2,some (.cells 2 [(vL eI r_21.2.L),(vI r_21.2.f_at)]))]:Hp) (by kernel_rfl) (ae (vI r_15.1) wz rfl (ae (vI r_18.1) wz rfl (ae (vS r_21.1) wz rfl (ai (af (aa (ae (vL Receipt.enc r_9.1) wz rfl (ae (vL Receipt.enc r_12.1) wz rfl ?_))))))))
 obtain ⟨r_24,hr_25,hF⟩:=bind_some hF
 refine aB (Cg hr_25) rfl hb48 rfl rfl rfl rfl wz (ae (.tup [(vL Receipt.enc r_24.1),(vI r_24.2)]) wz rfl (ae (vL Receipt.enc r_24.1) wz rfl (ae (vI r_24.2) wz rfl (ae (vL Receipt.enc r_24.1) wz rfl (ae (vI r_24.2) wz rfl (ai (aN (H0:=([(n_2,some (.cells 2 [(vL eI r_21.2.L),(vI r_21.2.f_at)]))]:Hp)) ([(4,(vL Alert.enc r_3.1)),(5,(vL Post.enc r_6.1)),(6,(vL Receipt.enc r_9.1)),(7,(vL Receipt.enc r_12.1)),(8,(vI r_15.1)),(9,(vI r_18.1)),(10,(vS r_21.1)),(11,(vL Receipt.enc r_24.1)),(12,(vI r_24.2))]:SL_) (by kernel_rfl) (Ao (by kernel_rfl)) (af (aa (ae (vL Alert.enc r_3.1) wz rfl (ae (vL Post.enc r_6.1) wz rfl (ae (vL Receipt.enc r_9.1) wz rfl (ae (vI r_15.1) wz rfl (ae (vI r_18.1) wz rfl ?_))))))))))))))
 obtain ⟨r_26,hr_27,hF⟩:=bind_some hF
 refine aB (CX hr_27) rfl hb40 rfl rfl rfl rfl wz (ae (.tup [(vL Debt.enc r_26.1),(vI r_26.2)]) wz rfl (ae (vL Debt.enc r_26.1) wz rfl (ae (vI r_26.2) wz rfl (ae (vL Debt.enc r_26.1) wz rfl (ae (vI r_26.2) wz rfl (ai (af (aa (ae (vL Alert.enc r_3.1) wz rfl (ae (vL Post.enc r_6.1) wz rfl (ae (vL Receipt.enc r_9.1) wz rfl (ae (vS r_21.1) wz rfl (ae (vI r_18.1) wz rfl ?_)))))))))))))
 obtain ⟨r_28,hr_29,hF⟩:=bind_some hF
 refine aB (zX hr_29) rfl hb49 rfl rfl rfl rfl wz (ae (.tup [(.d (.agg (Fraction.enc r_28.1))),(vI r_28.2)]) wz rfl (ae (.d (.agg (Fraction.enc r_28.1))) wz rfl (ae (vI r_28.2) wz rfl (cK 0 (.inl rfl) IU rfl wz (λn_30=>dJ 0 il ft 1 ll rfl rfl [(vI r_28.1.Num),(vI r_28.1.Den)] rfl wz (ae (vI r_28.2) wz rfl (ai (af (aa (ae (vL Alert.enc r_3.1) wz rfl (ae (vL Post.enc r_6.1) wz rfl (ae (vL Receipt.enc r_9.1) wz rfl (ae (vI r_15.1) wz rfl (ae (vI r_18.1) wz rfl ?_))))))))))))))
 obtain ⟨r_31,hr_32,hF⟩:=bind_some hF
 refine aB (Bb hr_32) rfl hb50 rfl rfl rfl rfl wz (ae (.tup [(vL eS r_31.1),(vI r_31.2)]) wz rfl (ae (vL eS r_31.1) wz rfl (ae (vI r_31.2) wz rfl (ae (vL eS r_31.1) wz rfl (ae (vI r_31.2) wz rfl (ai (aN (H0:=([(n_2,some (.cells 2 [(vL eI r_21.2.L),(vI r_21.2.f_at)])),(n_30,some (.cells 2 [(vI r_28.1.Num),(vI r_28.1.Den)]))]:Hp)) ([(4,(vL Alert.enc r_3.1)),(5,(vL Post.enc r_6.1)),(6,(vL Receipt.enc r_9.1)),(7,(vL Receipt.enc r_12.1)),(8,(vI r_15.1)),(9,(vI r_18.1)),(10,(vS r_21.1)),(11,(vL Receipt.enc r_24.1)),(12,(vI r_24.2)),(13,(vL Debt.enc r_26.1)),(14,(vI r_26.2)),(15,(.ref n_30 0 0)),(16,(vI r_28.2)),(17,(vL eS r_31.1)),(18,(vI r_31.2))]:SL_) (by kernel_rfl) (Ao (by kernel_rfl)) (af (aa (ae (vL Receipt.enc r_9.1) wz rfl ?_))))))))))
 obtain ⟨r_33,hr_34,hF⟩:=bind_some hF
 refine aB (qj hr_34) rfl hb51 rfl rfl rfl rfl wz (ae (vI r_33) wz rfl (ai (af (af (aa (ae (vL Receipt.enc r_9.1) wz rfl ?_))))))
 obtain ⟨r_35,hr_36,hF⟩:=bind_some hF
 refine aB (kX hr_36) rfl hb52 rfl rfl rfl rfl wz (ae (vI r_33) wz rfl (ae (vB (r_35 != r_33)) wz rfl (ai ?_)))
 rcases ak hF with⟨hc_37,hF⟩|⟨hc_37,hF⟩
 ·refine aA rfl hc_37 (af (aa (ae (vB false) wz rfl (ai ?_))))
  obtain rfl:=ah hF
  exact ax (aR (.inr rfl) [(vB false)] ⟨rfl,trivial⟩ rfl rfl rfl)
 ·refine ay rfl hc_37 (au (af (aa (ae (vL Alert.enc r_3.1) wz rfl ?_))))
  obtain ⟨r_38,hr_39,hF⟩:=bind_some hF
  refine aB (yD hr_39) rfl hb25 rfl rfl rfl rfl wz (ae (vL Post.enc r_6.1) wz rfl ?_)
  obtain ⟨r_40,hr_41,hF⟩:=bind_some hF
  refine aB (yJ hr_41) rfl hb26 rfl rfl rfl rfl wz (ae (vI r_33) wz rfl (dQ (([r_38,r_40,r_33]:List Int).map eI) D6 F6 rfl rfl rfl rfl rfl wz ?_))
  obtain ⟨r_42,hr_43,hF⟩:=bind_some hF
  refine aB (qg hr_43) rfl MP rfl rfl rfl rfl wz (ae (vI r_42) wz rfl (ai (af ?_)))
  obtain ⟨v_44,h_45,hF⟩:=bind_some hF
  refine aG (β:=Unit) (λ_=>([(4,(vL Alert.enc r_3.1)),(5,(vL Post.enc r_6.1)),(6,(vL Receipt.enc r_9.1)),(7,(vL Receipt.enc r_12.1)),(8,(vI r_15.1)),(9,(vI r_18.1)),(10,(vS r_21.1)),(11,(vL Receipt.enc r_24.1)),(12,(vI r_24.2)),(13,(vL Debt.enc r_26.1)),(14,(vI r_26.2)),(15,(.ref n_30 0 0)),(16,(vI r_28.2)),(17,(vL eS r_31.1)),(18,(vI r_31.2)),(19,(vI r_33)),(20,(vI r_42)),(21,(vI v_44))]:SL_)) (λ_=>([(n_2,some (.cells 2 [(vL eI r_21.2.L),(vI r_21.2.f_at)])),(n_30,some (.cells 2 [(vI r_28.1.Num),(vI r_28.1.Den)]))]:Hp)) (λ_=>True) ?_ ?_
  ·refine aa (ae (vI r_42) wz rfl (ae (vI r_15.1) wz rfl (ae (vB (decide (r_15.1<0))) wz rfl ?_)))
   rcases ak h_45 with⟨hc_46,h_45⟩|⟨hc_46,h_45⟩
   ·refine aC rfl hc_46 wz (aj wa (aj wa (ae (vB true) wz rfl ?_)))
    obtain ⟨r_47,hr_48,h_45⟩:=bind_some h_45
    refine aB (qw hr_48) rfl MF rfl rfl rfl rfl wz (ae (vI r_18.1) wz rfl ?_)
    obtain ⟨r_49,hr_50,h_45⟩:=bind_some h_45
    refine aB (nK hr_50) rfl hb54 rfl rfl rfl rfl wz (dQ (([r_42,r_47,r_49]:List Int).map eI) D6 F6 rfl rfl rfl rfl rfl wz ?_)
    obtain ⟨r_51,hr_52,h_45⟩:=bind_some h_45
    refine aB (qg hr_52) rfl MP rfl rfl rfl rfl wz (ae (vI r_51) wz rfl (ai ?_))
    obtain rfl:=ah h_45
    exact cu
   ·refine aC rfl hc_46 wz (ae (vI r_15.1) wa rfl (ae (vB (decide (r_15.1>2592000000))) wa rfl (ae (vB (decide (r_15.1>2592000000))) wz rfl ?_)))
    obtain ⟨r_53,hr_54,h_45⟩:=bind_some h_45
    refine aB (qw hr_54) rfl MF rfl rfl rfl rfl wz (ae (vI r_18.1) wz rfl ?_)
    obtain ⟨r_55,hr_56,h_45⟩:=bind_some h_45
    refine aB (nK hr_56) rfl hb54 rfl rfl rfl rfl wz (dQ (([r_42,r_53,r_55]:List Int).map eI) D6 F6 rfl rfl rfl rfl rfl wz ?_)
    obtain ⟨r_57,hr_58,h_45⟩:=bind_some h_45
    refine aB (qg hr_58) rfl MP rfl rfl rfl rfl wz (ae (vI r_57) wz rfl (ai ?_))
    obtain rfl:=ah h_45
    exact cu
  ·rintro ⟨⟩ _ sl_ H_ hp_ hq_
   refine aN _ hp_ hq_ (af (aa (ae (vI r_42) wz rfl (ae (vI r_42) wz rfl (ai (af (af (aa (ae (vI r_42) wz rfl (ae (vB (r_42==0)) wz rfl (ai ?_)))))))))))
   obtain ⟨v_59,h_60,hF⟩:=bind_some hF
   refine aG (β:=Unit) (λ_=>([(4,(vL Alert.enc r_3.1)),(5,(vL Post.enc r_6.1)),(6,(vL Receipt.enc r_9.1)),(7,(vL Receipt.enc r_12.1)),(8,(vI r_15.1)),(9,(vI r_18.1)),(10,(vS r_21.1)),(11,(vL Receipt.enc r_24.1)),(12,(vI r_24.2)),(13,(vL Debt.enc r_26.1)),(14,(vI r_26.2)),(15,(.ref n_30 0 0)),(16,(vI r_28.2)),(17,(vL eS r_31.1)),(18,(vI r_31.2)),(19,(vI r_33)),(21,(vI v_44)),(22,(vI v_59))]:SL_)) (λ_=>([(n_2,some (.cells 2 [(vL eI r_21.2.L),(vI r_21.2.f_at)])),(n_30,some (.cells 2 [(vI r_28.1.Num),(vI r_28.1.Den)]))]:Hp)) (λ_=>True) ?_ ?_
   ·rcases ak h_60 with⟨hc_61,h_60⟩|⟨hc_61,h_60⟩
    ·refine aA rfl hc_61 (aa (ae (vL Alert.enc r_3.1) wz rfl (ae (vS r_21.1) wz rfl ?_)))
     obtain ⟨r_62,hr_63,h_60⟩:=bind_some h_60
     refine aB (AX hr_63) rfl hb55 rfl rfl rfl rfl wz (ae (vB (!r_62)) wz rfl ?_)
     obtain ⟨r_64,hr_65,h_60⟩:=bind_some h_60
     refine aB (qw hr_65) rfl MF rfl rfl rfl rfl wz (ae (vI r_18.1) wz rfl ?_)
     obtain ⟨r_66,hr_67,h_60⟩:=bind_some h_60
     refine aB (nK hr_67) rfl hb54 rfl rfl rfl rfl wz (dQ (([r_64,r_66]:List Int).map eI) D6 F6 rfl rfl rfl rfl rfl wz ?_)
     obtain ⟨r_68,hr_69,h_60⟩:=bind_some h_60
     refine aB (qg hr_69) rfl MP rfl rfl rfl rfl wz (ae (vI r_68) wz rfl (ai ?_))
     obtain rfl:=ah h_60
     exact cu
    ·refine ay rfl hc_61 (au ?_)
     obtain rfl:=ah h_60
     exact cu
   ·rintro ⟨⟩ _ sl_ H_ hp_ hq_
    refine aN _ hp_ hq_ (af (aa (ae .nil wz rfl (ai (af (af (aa (ae (vI r_33) wz rfl (ae (vL Receipt.enc r_12.1) wz rfl ?_)))))))))
    obtain ⟨r_70,hr_71,hF⟩:=bind_some hF
    refine aB (qj hr_71) rfl hb51 rfl rfl rfl rfl wz (dQ (([r_33,r_70]:List Int).map eI) D6 F6 rfl rfl rfl rfl rfl wz ?_)
    obtain ⟨r_72,hr_73,hF⟩:=bind_some hF
    refine aB (qg hr_73) rfl MP rfl rfl rfl rfl wz (ae (vI r_72) wz rfl (ai (af (aa (ae (vI r_72) wz rfl (ae (vB (r_72==0)) wz rfl (ai (FJ Receipt.enc 23 rfl ?_))))))))
    obtain ⟨v_76,h_77,hF⟩:=bind_some hF
    refine aG (β:=Unit) (λ_=>([(4,(vL Alert.enc r_3.1)),(5,(vL Post.enc r_6.1)),(6,(vL Receipt.enc r_9.1)),(8,(vI r_15.1)),(9,(vI r_18.1)),(10,(vS r_21.1)),(11,(vL Receipt.enc r_24.1)),(12,(vI r_24.2)),(13,(vL Debt.enc r_26.1)),(14,(vI r_26.2)),(15,(.ref n_30 0 0)),(16,(vI r_28.2)),(17,(vL eS r_31.1)),(18,(vI r_31.2)),(19,(vI v_76.1)),(21,(vI v_44)),(22,(vI v_59)),(23,(vL Receipt.enc v_76.2))]:SL_)) (λ_=>([(n_2,some (.cells 2 [(vL eI r_21.2.L),(vI r_21.2.f_at)])),(n_30,some (.cells 2 [(vI r_28.1.Num),(vI r_28.1.Den)]))]:Hp)) (λ_=>True) ?_ ?_
    ·rcases ak h_77 with⟨hc_78,h_77⟩|⟨hc_78,h_77⟩
     ·refine aA rfl hc_78 (aa (ae (vL Receipt.enc r_9.1) wz rfl (ae (vL Receipt.enc r_12.1) wz rfl ?_)))
      obtain ⟨r_79,hr_80,h_77⟩:=bind_some h_77
      refine aB (y8 hr_80) rfl hb56 rfl rfl rfl rfl wz (ae (.tup [(vL Receipt.enc r_79.1),(vI r_79.2)]) wz rfl (ae (vL Receipt.enc r_79.1) wz rfl (ae (vI r_79.2) wz rfl (ae (vL Receipt.enc r_79.1) wz rfl (ae (vI r_79.2) wz rfl (ai ?_))))))
      obtain rfl:=ah h_77
      exact cu
     ·refine ay rfl hc_78 (au ?_)
      obtain rfl:=ah h_77
      exact cu
    ·rintro ⟨⟩ _ sl_ H_ hp_ hq_
     refine aN _ hp_ hq_ (af (aa (ae .nil wz rfl (ai (af (aa (ae .nil wz rfl (ai (af (af (aa (ae (vI v_44) wz rfl (ae (vB (v_44==0)) wz rfl (ai (FJ Debt.enc 24 rfl (FJ eS 25 rfl ?_))))))))))))))))
     obtain ⟨v_85,h_86,hF⟩:=bind_some hF
     refine aG (β:=Unit) (λ_=>([(4,(vL Alert.enc r_3.1)),(5,(vL Post.enc r_6.1)),(6,(vL Receipt.enc r_9.1)),(9,(vI r_18.1)),(10,(vS r_21.1)),(11,(vL Receipt.enc r_24.1)),(12,(vI r_24.2)),(13,(vL Debt.enc r_26.1)),(14,(vI r_26.2)),(15,(.ref n_30 0 0)),(16,(vI r_28.2)),(17,(vL eS r_31.1)),(18,(vI r_31.2)),(19,(vI v_76.1)),(21,(vI v_44)),(22,(vI v_59)),(23,(vL Receipt.enc v_76.2)),(24,(vL Debt.enc v_85.1)),(25,(vL eS v_85.2))]:SL_)) (λ_=>([(n_2,some (.cells 2 [(vL eI r_21.2.L),(vI r_21.2.f_at)])),(n_30,some (.cells 2 [(vI r_28.1.Num),(vI r_28.1.Den)]))]:Hp)) (λ_=>True) ?_ ?_
     ·rcases ak h_86 with⟨hc_87,h_86⟩|⟨hc_87,h_86⟩
      ·refine aA rfl hc_87 (aa (ae (vL Alert.enc r_3.1) wz rfl (ae (vL Post.enc r_6.1) wz rfl (ae (vL Receipt.enc r_9.1) wz rfl (ae (vI r_15.1) wz rfl (ae (vI r_18.1) wz rfl ?_))))))
       obtain ⟨r_88,hr_89,h_86⟩:=bind_some h_86
       refine aB (BB hr_89) rfl hb57 rfl rfl rfl rfl wz (ae (vL Alert.enc r_3.1) wz rfl (ae (vL Post.enc r_6.1) wz rfl (ae (vL Receipt.enc r_9.1) wz rfl (ae (vI r_15.1) wz rfl (ae (vI r_18.1) wz rfl ?_)))))
       obtain ⟨r_90,hr_91,h_86⟩:=bind_some h_86
       refine aB (A8 hr_91) rfl hb58 rfl rfl rfl rfl wz (ae (vL Debt.enc r_88) wz rfl (ae (vL eS r_90) wz rfl (ai ?_)))
       obtain rfl:=ah h_86
       exact cu
      ·refine ay rfl hc_87 (au ?_)
       obtain rfl:=ah h_86
       exact cu
     ·rintro ⟨⟩ _ sl_ H_ hp_ hq_
      refine aN _ hp_ hq_ (af (aa (ae (.d (.agg (Fraction.enc (⟨0,0⟩:Fraction)))) wz (by kernel_rfl) (cK 0 (.inl rfl) IU rfl wz (λn_92=>dJ 0 il ft 2 ll rfl rfl [(vI 0),(vI 0)] rfl wz (ai (af (af (aa (ae (vI v_59) wz rfl (ae (vB (v_59==0)) wz rfl (ai ?_))))))))))))
      obtain ⟨v_93,h_94,hF⟩:=bind_some hF
      refine aG (β:=Unit) (λ_=>([(11,(vL Receipt.enc r_24.1)),(12,(vI r_24.2)),(13,(vL Debt.enc r_26.1)),(14,(vI r_26.2)),(15,(.ref n_30 0 0)),(16,(vI r_28.2)),(17,(vL eS r_31.1)),(18,(vI r_31.2)),(19,(vI v_76.1)),(21,(vI v_44)),(22,(vI v_93.1)),(23,(vL Receipt.enc v_76.2)),(24,(vL Debt.enc v_85.1)),(25,(vL eS v_85.2)),(26,(.ref n_92 0 0))]:SL_)) (λ_=>([(n_2,some (.cells 2 [(vL eI r_21.2.L),(vI r_21.2.f_at)])),(n_30,some (.cells 2 [(vI r_28.1.Num),(vI r_28.1.Den)])),(n_92,some (.cells 2 [(vI v_93.2.1),(vI v_93.2.2)]))]:Hp)) (λ_=>True) ?_ ?_
      ·rcases ak h_94 with⟨hc_95,h_94⟩|⟨hc_95,h_94⟩
       ·refine aA rfl hc_95 (af (aa (ae (vL Alert.enc r_3.1) wz rfl (ae (vL Post.enc r_6.1) wz rfl (ae (vL Receipt.enc r_9.1) wz rfl (ae (vS r_21.1) wz rfl (ae (vI r_18.1) wz rfl ?_)))))))
        obtain ⟨r_96,hr_97,h_94⟩:=bind_some h_94
        refine aB (zx hr_97) rfl hb59 rfl rfl rfl rfl wz (ae (.tup [(.d (.agg (Fraction.enc r_96.1))),(vB r_96.2)]) wz rfl (ae (.d (.agg (Fraction.enc r_96.1))) wz rfl (ae (vB r_96.2) wz rfl (cK 0 (.inl rfl) IU rfl wz (λn_98=>dJ 0 il ft 3 ll rfl rfl [(vI r_96.1.Num),(vI r_96.1.Den)] rfl wz (ae (vB r_96.2) wz rfl (ai (bR (aF 0 3 (.inr (by kernel_rfl)) (λ_ _ ag=>trivial) ll vN rfl rfl (.d (.agg (Fraction.enc r_96.1))) rfl wz (ae (vB r_96.2) wz rfl (ae (vB (!r_96.2)) wz rfl ?_)))))))))))
        obtain ⟨r_99,hr_100,h_94⟩:=bind_some h_94
        refine aB (qw hr_100) rfl MF rfl rfl rfl rfl wz (dJ 4 (.inr (by kernel_rfl)) (λ_ _ ag=>⟨.inr (.inr (by kernel_rfl)),trivial⟩) 2 ll rfl rfl [(vI r_96.1.Num),(vI r_96.1.Den)] rfl wz (ae (vI r_99) wz rfl (ai ?_)))
        obtain rfl:=ah h_94
        exact cu
       ·refine ay rfl hc_95 (au ?_)
        obtain rfl:=ah h_94
        exact cu
      ·rintro ⟨⟩ _ sl_ H_ hp_ hq_
       refine aN _ hp_ hq_ (af ?_)
       obtain ⟨v_101,h_102,hF⟩:=bind_some hF
       refine aG (β:=Unit) (λ_=>([(2,(vB v_101))]:SL_)) (λ_=>([(n_2,some (.cells 2 [(vL eI r_21.2.L),(vI r_21.2.f_at)])),(n_30,some (.cells 2 [(vI r_28.1.Num),(vI r_28.1.Den)])),(n_92,some (.cells 2 [(vI v_93.2.1),(vI v_93.2.2)]))]:Hp)) (λ_=>True) ?_ ?_
       ·refine aa (ae (vI r_24.2) wz rfl (ae (vI v_76.1) wz rfl (ae (vB (r_24.2==v_76.1)) wz rfl ?_)))
        rcases ak h_102 with⟨hc_103,h_102⟩|⟨hc_103,h_102⟩
        ·refine aC rfl hc_103 wz (ae (vL Receipt.enc r_24.1) wa rfl (ae (vL Receipt.enc v_76.2) wa rfl ?_))
         obtain ⟨r_104,hr_105,h_102⟩:=bind_some h_102
         refine aB (lV hr_105) rfl hb60 rfl rfl rfl rfl wa (ae (vB r_104) wz rfl ?_)
         rcases ak h_102 with⟨hc_106,h_102⟩|⟨hc_106,h_102⟩
         ·refine aC rfl hc_106 wz (ae (vI r_26.2) wa rfl (ae (vI v_44) wa rfl (ae (vB (r_26.2==v_44)) wa rfl (ae (vB (r_26.2==v_44)) wz rfl ?_))))
          rcases ak h_102 with⟨hc_107,h_102⟩|⟨hc_107,h_102⟩
          ·refine aC rfl hc_107 wz (ae (vL Debt.enc r_26.1) wa rfl (ae (vL Debt.enc v_85.1) wa rfl ?_))
           obtain ⟨r_108,hr_109,h_102⟩:=bind_some h_102
           refine aB (nX hr_109) rfl hb61 rfl rfl rfl rfl wa (ae (vB r_108) wz rfl ?_)
           rcases ak h_102 with⟨hc_110,h_102⟩|⟨hc_110,h_102⟩
           ·refine aC rfl hc_110 wz (ae (vI r_28.2) wa rfl (ae (vI v_93.1) wa rfl (ae (vB (r_28.2==v_93.1)) wa rfl (ae (vB (r_28.2==v_93.1)) wz rfl ?_))))
            rcases ak h_102 with⟨hc_111,h_102⟩|⟨hc_111,h_102⟩
            ·refine aC rfl hc_111 wz (aF 0 1 il ft ll vN rfl rfl (.d (.agg (Fraction.enc r_28.1))) rfl wa (aF 0 2 il ft ll vN rfl rfl (.d (.agg (Fraction.enc (⟨v_93.2.1,v_93.2.2⟩:Fraction)))) rfl wa (ae (vB ((r_28.1.Num==v_93.2.1)&&((r_28.1.Den==v_93.2.2)&&true))) wa (by kernel_rfl) (ae (vB ((r_28.1.Num==v_93.2.1)&&((r_28.1.Den==v_93.2.2)&&true))) wz rfl ?_))))
             rcases ak h_102 with⟨hc_112,h_102⟩|⟨hc_112,h_102⟩
             ·refine aC rfl hc_112 wz (ae (vI r_31.2) wa rfl (ae (vI v_44) wa rfl (ae (vB (r_31.2==v_44)) wa rfl (ae (vB (r_31.2==v_44)) wz rfl ?_))))
              rcases ak h_102 with⟨hc_113,h_102⟩|⟨hc_113,h_102⟩
              ·refine aC rfl hc_113 wz (ae (vL eS r_31.1) wa rfl (ae (vL eS v_85.2) wa rfl ?_))
               obtain ⟨r_114,hr_115,h_102⟩:=bind_some h_102
               refine aB (kM hr_115) rfl hb62 rfl rfl rfl rfl wa (ae (vB r_114) wz rfl ?_)
               rcases ak h_102 with⟨hc_116,h_102⟩|⟨hc_116,h_102⟩
               ·refine aC rfl hc_116 wz ?_
                obtain ⟨r_117,hr_118,h_102⟩:=bind_some h_102
                refine aB (DR hr_118) rfl hb30 rfl rfl rfl rfl wa (ae (vB r_117) wz rfl (ae (vB r_117) wz rfl (ai ?_)))
                obtain rfl:=ah h_102
                exact cu
               ·refine aC rfl hc_116 wz (aj wa (ae (vB false) wz rfl (ae (vB false) wz rfl (ai ?_))))
                obtain rfl:=ah h_102
                exact cu
              ·refine aC rfl hc_113 wz (aj wa (aj wa (aj wa (ae (vB false) wz rfl (ae (vB false) wz rfl (aj wa (ae (vB false) wz rfl (ae (vB false) wz rfl (ai ?_)))))))))
               obtain rfl:=ah h_102
               exact cu
             ·refine aC rfl hc_112 wz (aj wa (aj wa (aj wa (ae (vB false) wz rfl (ae (vB false) wz rfl (aj wa (aj wa (aj wa (ae (vB false) wz rfl (ae (vB false) wz rfl (aj wa (ae (vB false) wz rfl (ae (vB false) wz rfl (ai ?_))))))))))))))
              obtain rfl:=ah h_102
              exact cu
            ·refine aC rfl hc_111 wz (aj wa (aj wa (aj wa (ae (vB false) wz rfl (ae (vB false) wz rfl (aj wa (aj wa (aj wa (ae (vB false) wz rfl (ae (vB false) wz rfl (aj wa (aj wa (aj wa (ae (vB false) wz rfl (ae (vB false) wz rfl (aj wa (ae (vB false) wz rfl (ae (vB false) wz rfl (ai ?_)))))))))))))))))))
             obtain rfl:=ah h_102
             exact cu
           ·refine aC rfl hc_110 wz (aj wa (aj wa (aj wa (ae (vB false) wz rfl (ae (vB false) wz rfl (aj wa (aj wa (aj wa (ae (vB false) wz rfl (ae (vB false) wz rfl (aj wa (aj wa (aj wa (ae (vB false) wz rfl (ae (vB false) wz rfl (aj wa (aj wa (aj wa (ae (vB false) wz rfl (ae (vB false) wz rfl (aj wa (ae (vB false) wz rfl (ae (vB false) wz rfl ?_)))))))))))))))))))))))
            refine ai ?_
            obtain rfl:=ah h_102
            exact cu
          ·refine aC rfl hc_107 wz (aj wa (aj wa (aj wa (ae (vB false) wz rfl (ae (vB false) wz rfl (aj wa (aj wa (aj wa (ae (vB false) wz rfl (ae (vB false) wz rfl (aj wa (aj wa (aj wa (ae (vB false) wz rfl (ae (vB false) wz rfl (aj wa (aj wa (aj wa (ae (vB false) wz rfl (ae (vB false) wz rfl (aj wa (aj wa (aj wa ?_)))))))))))))))))))))))
           refine ae (vB false) wz rfl (ae (vB false) wz rfl (aj wa (ae (vB false) wz rfl (ae (vB false) wz rfl (ai ?_)))))
           obtain rfl:=ah h_102
           exact cu
         ·refine aC rfl hc_106 wz (aj wa (aj wa (aj wa (ae (vB false) wz rfl (ae (vB false) wz rfl (aj wa (aj wa (aj wa (ae (vB false) wz rfl (ae (vB false) wz rfl (aj wa (aj wa (aj wa (ae (vB false) wz rfl (ae (vB false) wz rfl (aj wa (aj wa (aj wa (ae (vB false) wz rfl (ae (vB false) wz rfl (aj wa (aj wa (aj wa ?_)))))))))))))))))))))))
          refine ae (vB false) wz rfl (ae (vB false) wz rfl (aj wa (aj wa (aj wa (ae (vB false) wz rfl (ae (vB false) wz rfl (aj wa (ae (vB false) wz rfl (ae (vB false) wz rfl (ai ?_))))))))))
          obtain rfl:=ah h_102
          exact cu
        ·refine aC rfl hc_103 wz (aj wa (aj wa (aj wa (ae (vB false) wz rfl (ae (vB false) wz rfl (aj wa (aj wa (aj wa (ae (vB false) wz rfl (ae (vB false) wz rfl (aj wa (aj wa (aj wa (ae (vB false) wz rfl (ae (vB false) wz rfl (aj wa (aj wa (aj wa (ae (vB false) wz rfl (ae (vB false) wz rfl (aj wa (aj wa (aj wa ?_)))))))))))))))))))))))
         refine ae (vB false) wz rfl (ae (vB false) wz rfl (aj wa (aj wa (aj wa (ae (vB false) wz rfl (ae (vB false) wz rfl (aj wa (aj wa (aj wa (ae (vB false) wz rfl (ae (vB false) wz rfl (aj wa (ae (vB false) wz rfl (ae (vB false) wz rfl (ai ?_)))))))))))))))
         obtain rfl:=ah h_102
         exact cu
       ·rintro ⟨⟩ _ sl_ H_ hp_ hq_
        refine aN _ hp_ hq_ ?_
        obtain rfl:=ah hF
        exact ax (aR (.inr rfl) [(vB v_101)] ⟨rfl,trivial⟩ rfl rfl rfl)
end Go.Proofs.YtjhcehhmdmbleaaGreatDoor.Law

