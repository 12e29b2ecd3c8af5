/-
 The machine computes these plain functions (written by a program of ours).
-/
import Derived.Test.YtekmkepojbhafacGreatDoorFacts
import Derived.Test.YtekmkepojbhafacGreatDoorDefs
import Derived.Test.YtekmkepojbhafacGreatDoorPf4
open Go Go.Eng Go.Proofs
namespace Go.Proofs.YtekmkepojbhafacGreatDoor.Law
set_option maxRecDepth 100000
set_option linter.unusedVariables false
set_option maxHeartbeats 1000000
theorem zq {a_1:Alert} {r:Int} (hF:ll a_1=some r) :
  FnM Tryz.prog 114 [(.d (.agg (Alert.enc a_1)))] [] (vI r) []:=by
 refine FnM.of_wH ⟨Tryz.prog,48,[],[]⟩ rfl Tryz.func114 rfl rfl (lb_ rfl) (by kernel_rfl) ?_
 unfold ll at hF
 refine ai (ig 0 (.inl rfl) (Alert.v a_1) rfl rfl wz (λn_2=>aa (vI 0) (ah (ak (ai (aH IL rfl 3 rfl wz (aF 0 0 il ft Ba Ez rfl rfl (vL eS a_1.Refs) rfl wz (bR Ac rfl wz (aa (vB (decide ((a_1.Refs.length:Int)>20))) (ah ?_))))))))))
 rcases aj hF with⟨hc_3,hF⟩|⟨hc_3,hF⟩
 ·refine aB rfl hc_3 (ai (aa (vI 2) (ah ?_)))
  obtain rfl:=ae hF
  exact ay (aK [(vI 2)] ⟨rfl,trivial⟩)
 ·refine aA rfl hc_3 (av (ak (ai (aH IL rfl 3 rfl wz (aF 0 0 il ft Ba Ez rfl rfl (vL eS a_1.Refs) rfl wz (bR Ac rfl wz (aa (vI 0) (ah ?_))))))))
  obtain ⟨o_12,hj_13,hF⟩:=bind_some hF
  obtain ⟨hn_8,hj_13⟩:=bf hj_13
  refine cz (λ(s_9:Unit)=>[(1,(.ref n_2 0 0))]) (λ(s_9:Unit)=>[(n_2,some (.cells 9 (Alert.v a_1)))]) (λ(k_4:Nat)=>(λ(s_9:Unit)=>[(1,(.ref n_2 0 0)),(10,(vL eS a_1.Refs)),(11,(vI (a_1.Refs.length:Int))),(12,(vI (k_4:Int)))])) (λk x s=>ji a_1 k x s) o_12 a_1.Refs () hj_13 rfl (aL rfl) ?_ ?_
  ·rintro ⟨k_4,l_5,s_9⟩ ⟨hL_11,hD_7⟩
   dsimp only at hL_11 hD_7
   cases l_5 with
   | nil =>
    obtain rfl:=ae hL_11
    refine ai (aa (vB (decide ((k_4:Int)<(a_1.Refs.length:Int)))) (ah ?_))
    refine ak (aA rfl (drop_nil hD_7) (aV ?_))
    exact aS (s_9) rfl rfl (aL rfl)
   | cons x_6 l_5 =>
    obtain ⟨c_,hc_10,hL_11⟩:=bind_some hL_11
    refine ai (aa (vB (decide ((k_4:Int)<(a_1.Refs.length:Int)))) (ah ?_))
    refine ak (aB rfl (bv hD_7) (av ?_))
    unfold ji at hc_10
    refine ak (aM (ai (aa (vI (k_4:Int)) (dD uP rfl rfl (bI hD_7) rfl wz (bE sz9 ag9 rfl (vS x_6) rfl wz (aa (vI (k_4:Int)) (aa (vS x_6) (ah (aM (ai (aa (vS x_6) ?_)))))))))))
    obtain ⟨r_14,hr_15,hc_10⟩:=bind_some hc_10
    refine aD (fD hr_15) rfl CF rfl rfl rfl rfl wz (aa (vB (!r_14)) (aa (vB (!r_14)) (ah ?_)))
    rcases aj hc_10 with⟨hc_16,hc_10⟩|⟨hc_16,hc_10⟩
    ·refine aB rfl hc_16 (ai (aa (vI 5) (ah ?_)))
     obtain rfl:=ae hc_10
     obtain rfl:=ae hL_11
     obtain rfl:=ae hF
     exact ay (aK [(vI 5)] ⟨rfl,trivial⟩)
    ·refine aA rfl hc_16 (ak ?_)
     obtain ⟨v_17,h_18,hc_10⟩:=bind_some hc_10
     refine aQ [(1,(.ref n_2 0 0)),(4,(vS x_6)),(10,(vL eS a_1.Refs)),(11,(vI (a_1.Refs.length:Int))),(12,(vI (k_4:Int))),(21,(vB v_17))] [(n_2,some (.cells 9 (Alert.v a_1)))] ?_ ?_
     ·refine au (aa (vI (k_4:Int)) (aa (vB (decide ((k_4:Int)>0))) ?_))
      rcases aj h_18 with⟨hc_19,h_18⟩|⟨hc_19,h_18⟩
      ·refine aC rfl hc_19 wz (aG (vS x_6) wa rfl (aH IL rfl 3 rfl wa (aF 0 0 il ft Ba Ez rfl rfl (vL eS a_1.Refs) rfl wa (aG (vI (k_4:Int)) wa rfl (aG (vI (w64 ((k_4:Int)-1))) wa rfl ?_)))))
       obtain ⟨y_20,hy_21,h_18⟩:=bind_some h_18
       refine dD uP rfl rfl hy_21 rfl wa (bE sz9 ag9 rfl (vS y_20) rfl wa (aG (vB (sLe x_6 y_20)) wa rfl (aa (vB (sLe x_6 y_20)) (aa (vB (sLe x_6 y_20)) (ah ?_)))))
       obtain rfl:=ae h_18
       exact cu
      ·refine aC rfl hc_19 wz (af (af (af (af (af (af (af (af (aa (vB false) (aa (vB false) (ah ?_)))))))))))
       obtain rfl:=ae h_18
       exact cu
     ·rintro ⟨⟩ _ sl_ H_ hp_ hq_
      refine aO _ hp_ hq_ ?_
      rcases aj hc_10 with⟨hc_22,hc_10⟩|⟨hc_22,hc_10⟩
      ·refine aB rfl hc_22 (ai (aa (vI 7) (ah ?_)))
       obtain rfl:=ae hc_10
       obtain rfl:=ae hL_11
       obtain rfl:=ae hF
       exact ay (aK [(vI 7)] ⟨rfl,trivial⟩)
      ·refine aA rfl hc_22 (ai (aa (vS x_6) (aH BR rfl 0 rfl wz (aF 0 0 il ft sz9 ag9 rfl rfl (vS a_1.Id) rfl wz (aa (vB (sEq x_6 a_1.Id)) (aa (vB (sEq x_6 a_1.Id)) (ah ?_)))))))
       rcases aj hc_10 with⟨hc_23,hc_10⟩|⟨hc_23,hc_10⟩
       ·refine aB rfl hc_23 (ai (aa (vI 14) (ah ?_)))
        obtain rfl:=ae hc_10
        obtain rfl:=ae hL_11
        obtain rfl:=ae hF
        exact ay (aK [(vI 14)] ⟨rfl,trivial⟩)
       ·refine aA rfl hc_23 (av (au (dS (bC hD_7 hn_8) wz rfl (aa (vI ((k_4+1:Nat):Int)) (ah ?_)))))
        obtain rfl:=ae hc_10
        exact aU (k_4+1,l_5,()) ⟨hL_11,aX hD_7⟩ (ls_ _) rfl (aL rfl)
  ·rintro s_9 ho_ sl_ H_ hp_ hq_
   subst ho_
   refine aO _ hp_ hq_ (ak (ai (aH K3 rfl 2 rfl wz (aF 0 0 il ft sz3 ag3 rfl rfl (vI a_1.Kind) rfl wz (aa (vB (a_1.Kind==1)) (aH IL rfl 3 rfl wz (aF 0 0 il ft Ba Ez rfl rfl (vL eS a_1.Refs) rfl wz (bR Ac rfl wz (aa (vB ((a_1.Refs.length:Int)==0)) (Kl un4 rfl rfl wz (ah ?_)))))))))))
   rcases aj hF with⟨hc_24,hF⟩|⟨hc_24,hF⟩
   ·refine aB rfl hc_24 (ai (aa (vI 3) (ah ?_)))
    obtain rfl:=ae hF
    exact ay (aK [(vI 3)] ⟨rfl,trivial⟩)
   ·refine aA rfl hc_24 (av (ai (aa (vI 0) (ah ?_))))
    obtain rfl:=ae hF
    exact ay (aK [(vI 0)] ⟨rfl,trivial⟩)
theorem cZ {s_1:ByteArray} {r:Int} (hF:bD s_1=some r) :
  FnM Tryz.prog 138 [(vS s_1)] [] (.d (.int .u64 r)) []:=by
 refine FnM.of_wH ⟨Tryz.prog,59,[],[]⟩ rfl Tryz.func138 rfl rfl (lb_ rfl) (by kernel_rfl) ?_
 unfold bD at hF
 refine ai (aa (.d (.int .u64 0)) (ah (ak (aA rfl rfl (av (ak (bB (aa (vS s_1) ?_))))))))
 obtain ⟨b_2,hy_3,hF⟩:=bind_some hF
 refine kN un9 rfl rfl hy_3 wz (kR un5 AX rfl wz (aa (vS s_1) ?_))
 obtain ⟨b_4,hy_5,hF⟩:=bind_some hF
 refine kN un9 rfl rfl hy_5 wz (kR un5 AX rfl wz ?_)
 obtain ⟨q_6,hz_7,hF⟩:=bind_some hF
 refine Cf rfl rfl hz_7 wz (aa (.d (.int .u64 (orI .u64 (IntKind.u64.wrap (b_2.toNat:Int)) q_6))) (aa (vS s_1) ?_))
 obtain ⟨b_8,hy_9,hF⟩:=bind_some hF
 refine kN un9 rfl rfl hy_9 wz (kR un5 AX rfl wz ?_)
 obtain ⟨q_10,hz_11,hF⟩:=bind_some hF
 refine Cf rfl rfl hz_11 wz (aa (.d (.int .u64 (orI .u64 (orI .u64 (IntKind.u64.wrap (b_2.toNat:Int)) q_6) q_10))) (aa (vS s_1) ?_))
 obtain ⟨b_12,hy_13,hF⟩:=bind_some hF
 refine kN un9 rfl rfl hy_13 wz (kR un5 AX rfl wz ?_)
 obtain ⟨q_14,hz_15,hF⟩:=bind_some hF
 refine Cf rfl rfl hz_15 wz (aa (.d (.int .u64 (orI .u64 (orI .u64 (orI .u64 (IntKind.u64.wrap (b_2.toNat:Int)) q_6) q_10) q_14))) (aa (vS s_1) ?_))
 obtain ⟨b_16,hy_17,hF⟩:=bind_some hF
 refine kN un9 rfl rfl hy_17 wz (kR un5 AX rfl wz ?_)
 obtain ⟨q_18,hz_19,hF⟩:=bind_some hF
 refine Cf rfl rfl hz_19 wz (aa (.d (.int .u64 (orI .u64 (orI .u64 (orI .u64 (orI .u64 (IntKind.u64.wrap (b_2.toNat:Int)) q_6) q_10) q_14) q_18))) (aa (vS s_1) ?_))
 obtain ⟨b_20,hy_21,hF⟩:=bind_some hF
 refine kN un9 rfl rfl hy_21 wz (kR un5 AX rfl wz ?_)
 obtain ⟨q_22,hz_23,hF⟩:=bind_some hF
 refine Cf rfl rfl hz_23 wz (aa (.d (.int .u64 (orI .u64 (orI .u64 (orI .u64 (orI .u64 (orI .u64 (IntKind.u64.wrap (b_2.toNat:Int)) q_6) q_10) q_14) q_18) q_22))) (aa (vS s_1) ?_))
 obtain ⟨b_24,hy_25,hF⟩:=bind_some hF
 refine kN un9 rfl rfl hy_25 wz (kR un5 AX rfl wz ?_)
 obtain ⟨q_26,hz_27,hF⟩:=bind_some hF
 refine Cf rfl rfl hz_27 wz (aa (.d (.int .u64 (orI .u64 (orI .u64 (orI .u64 (orI .u64 (orI .u64 (orI .u64 (IntKind.u64.wrap (b_2.toNat:Int)) q_6) q_10) q_14) q_18) q_22) q_26))) (aa (vS s_1) ?_))
 obtain ⟨b_28,hy_29,hF⟩:=bind_some hF
 refine kN un9 rfl rfl hy_29 wz (kR un5 AX rfl wz ?_)
 obtain ⟨q_30,hz_31,hF⟩:=bind_some hF
 refine Cf rfl rfl hz_31 wz (aa (.d (.int .u64 (orI .u64 (orI .u64 (orI .u64 (orI .u64 (orI .u64 (orI .u64 (orI .u64 (IntKind.u64.wrap (b_2.toNat:Int)) q_6) q_10) q_14) q_18) q_22) q_26) q_30))) (aa (.d (.int .u64 (orI .u64 (orI .u64 (orI .u64 (orI .u64 (orI .u64 (orI .u64 (orI .u64 (IntKind.u64.wrap (b_2.toNat:Int)) q_6) q_10) q_14) q_18) q_22) q_26) q_30))) (ah (aO (H0:=([]:Hp)) ([(2,(.d (.int .u64 (orI .u64 (orI .u64 (orI .u64 (orI .u64 (orI .u64 (orI .u64 (orI .u64 (IntKind.u64.wrap (b_2.toNat:Int)) q_6) q_10) q_14) q_18) q_22) q_26) q_30))))]:SL_) (by kernel_rfl) (vW (by kernel_rfl)) ?_))))
 obtain rfl:=ae hF
 exact ay (aK [(.d (.int .u64 (orI .u64 (orI .u64 (orI .u64 (orI .u64 (orI .u64 (orI .u64 (orI .u64 (IntKind.u64.wrap (b_2.toNat:Int)) q_6) q_10) q_14) q_18) q_22) q_26) q_30)))] ⟨rfl,trivial⟩)
theorem rO {s_1:ByteArray} {r:Bool} (hF:fB s_1=some r) :
  FnM Tryz.prog 131 [(vS s_1)] [] (vB r) []:=by
 refine FnM.of_wH ⟨Tryz.prog,169,[],[]⟩ rfl Tryz.func131 rfl rfl (lb_ rfl) (by kernel_rfl) ?_
 unfold fB at hF
 refine ai (aa (vB false) (ah (ak ?_)))
 obtain ⟨o_10,hj_11,hF⟩:=bind_some hF
 obtain ⟨nq_71,hj_11⟩:=dA hj_11
 refine dZ (λ(s_7:ByteArray)=>[]) (λ(s_7:ByteArray)=>[]) (λ(k_2:Nat)=>(λ(s_7:ByteArray)=>[(0,(vS s_7))])) (λs=>dW s) o_10 nq_71 s_1 hj_11 rfl (aL rfl) ?_ ?_
 ·rintro ⟨k_2,s_7⟩ hL_9
  dsimp only at hL_9
  cases k_2 with
  | zero=>cases hL_9
  | succ k_2 =>
   obtain ⟨c_,hc_8,hL_9⟩:=bind_some hL_9
   unfold dW at hc_8
   refine ak (ai (aa (vS s_7) (nZ un9 rfl wz (aa (vB (decide ((s_7.size:Int)>0))) (ah ?_)))))
   rcases aj hc_8 with⟨hc_12,hc_8⟩|⟨hc_12,hc_8⟩
   ·refine aB rfl hc_12 (av (aM (ai (aa (vS s_7) ?_))))
    obtain ⟨b_13,hy_14,hc_8⟩:=bind_some hc_8
    refine kN un9 rfl rfl hy_14 wz (aa (.d (.int .u8 (b_13.toNat:Int))) (ah (ak (ai (aa (.d (.int .u8 (b_13.toNat:Int))) (aa (vB (decide ((b_13.toNat:Int)<128))) (ah ?_)))))))
    rcases aj hc_8 with⟨hc_15,hc_8⟩|⟨hc_15,hc_8⟩
    ·refine aB rfl hc_15 (ai (aa (vS s_7) ?_))
     obtain ⟨y_16,hy_17,hc_8⟩:=bind_some hc_8
     refine fZ un9 rfl rfl hy_17 wz (aa (vS y_16) (ah (ak (ak ?_))))
     obtain ⟨v_18,h_19,hc_8⟩:=bind_some hc_8
     refine aQ [(0,(vS y_16)),(24,(vB v_18))] [] ?_ ?_
     ·refine au (aa (vS y_16) (nZ un9 rfl wz (aa (vB (decide ((y_16.size:Int)>8))) ?_)))
      rcases aj h_19 with⟨hc_20,h_19⟩|⟨hc_20,h_19⟩
      ·refine aC rfl hc_20 wz (aG (vS y_16) wa rfl ?_)
       obtain ⟨r_21,hr_22,h_19⟩:=bind_some h_19
       refine aD (cZ hr_22) rfl EQ rfl rfl rfl rfl wa (aG (.d (.int .u64 (wy .u64 r_21 9259542123273814144))) wa rfl (aG (vB ((wy .u64 r_21 9259542123273814144)==0)) wa rfl (aa (vB ((wy .u64 r_21 9259542123273814144)==0)) (ah ?_))))
       obtain rfl:=ae h_19
       exact cu
      ·refine aC rfl hc_20 wz (af (af (af (af (aa (vB false) (ah ?_))))))
       obtain rfl:=ae h_19
       exact cu
     ·rintro ⟨⟩ _ sl_ H_ hp_ hq_
      refine aO _ hp_ hq_ ?_
      obtain ⟨v_23,h_24,hc_8⟩:=bind_some hc_8
      refine aQ [(0,(vS v_23))] [] ?_ ?_
      ·rcases aj h_24 with⟨hc_25,h_24⟩|⟨hc_25,h_24⟩
       ·refine aB rfl hc_25 (ai (aa (vS y_16) ?_))
        obtain ⟨y_26,hy_27,h_24⟩:=bind_some h_24
        refine fZ un9 rfl rfl hy_27 wz (aa (vS y_26) (ah (ak ?_)))
        obtain ⟨v_28,h_29,h_24⟩:=bind_some h_24
        refine aQ [(0,(vS y_26)),(39,(vB v_28))] [] ?_ ?_
        ·refine bB (aa (vS y_26) (nZ un9 rfl wz (aa (vB (decide ((y_26.size:Int)>16))) ?_)))
         rcases aj h_29 with⟨hc_30,h_29⟩|⟨hc_30,h_29⟩
         ·refine aC rfl hc_30 wz (aG (vS y_26) wa rfl ?_)
          obtain ⟨r_31,hr_32,h_29⟩:=bind_some h_29
          refine aD (cZ hr_32) rfl EQ rfl rfl rfl rfl wa (aG (vS y_26) wa rfl ?_)
          obtain ⟨y_33,hy_34,h_29⟩:=bind_some h_29
          refine fZ un9 rfl rfl hy_34 wa ?_
          obtain ⟨r_35,hr_36,h_29⟩:=bind_some h_29
          refine aD (cZ hr_36) rfl EQ rfl rfl rfl rfl wa (aG (.d (.int .u64 (orI .u64 r_31 r_35))) wa rfl (aG (.d (.int .u64 (wy .u64 (orI .u64 r_31 r_35) 9259542123273814144))) wa rfl (aG (vB ((wy .u64 (orI .u64 r_31 r_35) 9259542123273814144)==0)) wa rfl (aa (vB ((wy .u64 (orI .u64 r_31 r_35) 9259542123273814144)==0)) (ah ?_)))))
          obtain rfl:=ae h_29
          exact cu
         ·refine aC rfl hc_30 wz (af (af (af (af (af (af (af (af (aa (vB false) (ah ?_))))))))))
          obtain rfl:=ae h_29
          exact cu
        ·rintro ⟨⟩ _ sl_ H_ hp_ hq_
         refine aO _ hp_ hq_ ?_
         rcases aj h_24 with⟨hc_37,h_24⟩|⟨hc_37,h_24⟩
         ·refine aB rfl hc_37 (ai (aa (vS y_26) ?_))
          obtain ⟨y_38,hy_39,h_24⟩:=bind_some h_24
          refine fZ un9 rfl rfl hy_39 wz (aa (vS y_38) (ah ?_))
          obtain ⟨o_48,hj_49,h_24⟩:=bind_some h_24
          obtain ⟨nq_70,hj_49⟩:=dA hj_49
          refine dZ (λ(s_45:ByteArray)=>[(0,(vS s_45))]) (λ(s_45:ByteArray)=>[]) (λ(k_40:Nat)=>(λ(s_45:ByteArray)=>[(0,(vS s_45))])) (λs=>fQ s) o_48 nq_70 y_38 hj_49 rfl (aL rfl) ?_ ?_
          ·rintro ⟨k_40,s_45⟩ hL_47
           dsimp only at hL_47
           cases k_40 with
           | zero=>cases hL_47
           | succ k_40 =>
            obtain ⟨c_,hc_46,hL_47⟩:=bind_some hL_47
            unfold fQ at hc_46
            refine ak (ak ?_)
            obtain ⟨v_50,h_51,hc_46⟩:=bind_some hc_46
            refine aQ [(0,(vS s_45)),(62,(vB v_50))] [] ?_ ?_
            ·refine bB (aa (vS s_45) (nZ un9 rfl wz (aa (vB (decide ((s_45.size:Int)>32))) ?_)))
             rcases aj h_51 with⟨hc_52,h_51⟩|⟨hc_52,h_51⟩
             ·refine aC rfl hc_52 wz (aG (vS s_45) wa rfl ?_)
              obtain ⟨r_53,hr_54,h_51⟩:=bind_some h_51
              refine aD (cZ hr_54) rfl EQ rfl rfl rfl rfl wa (aG (vS s_45) wa rfl ?_)
              obtain ⟨y_55,hy_56,h_51⟩:=bind_some h_51
              refine fZ un9 rfl rfl hy_56 wa ?_
              obtain ⟨r_57,hr_58,h_51⟩:=bind_some h_51
              refine aD (cZ hr_58) rfl EQ rfl rfl rfl rfl wa (aG (.d (.int .u64 (orI .u64 r_53 r_57))) wa rfl (aG (vS s_45) wa rfl ?_))
              obtain ⟨y_59,hy_60,h_51⟩:=bind_some h_51
              refine fZ un9 rfl rfl hy_60 wa ?_
              obtain ⟨r_61,hr_62,h_51⟩:=bind_some h_51
              refine aD (cZ hr_62) rfl EQ rfl rfl rfl rfl wa (aG (vS s_45) wa rfl ?_)
              obtain ⟨y_63,hy_64,h_51⟩:=bind_some h_51
              refine fZ un9 rfl rfl hy_64 wa ?_
              obtain ⟨r_65,hr_66,h_51⟩:=bind_some h_51
              refine aD (cZ hr_66) rfl EQ rfl rfl rfl rfl wa (aG (.d (.int .u64 (orI .u64 r_61 r_65))) wa rfl (aG (.d (.int .u64 (orI .u64 (orI .u64 r_53 r_57) (orI .u64 r_61 r_65)))) wa rfl (aG (.d (.int .u64 (wy .u64 (orI .u64 (orI .u64 r_53 r_57) (orI .u64 r_61 r_65)) 9259542123273814144))) wa rfl (aG (vB ((wy .u64 (orI .u64 (orI .u64 r_53 r_57) (orI .u64 r_61 r_65)) 9259542123273814144)==0)) wa rfl (aa (vB ((wy .u64 (orI .u64 (orI .u64 r_53 r_57) (orI .u64 r_61 r_65)) 9259542123273814144)==0)) (ah ?_))))))
              obtain rfl:=ae h_51
              exact cu
             ·refine aC rfl hc_52 wz (af (af (af (af (af (af (af (af (af (af (af (af (af (af (af (af (aa (vB false) (ah ?_))))))))))))))))))
              obtain rfl:=ae h_51
              exact cu
            ·rintro ⟨⟩ _ sl_ H_ hp_ hq_
             refine aO _ hp_ hq_ ?_
             rcases aj hc_46 with⟨hc_67,hc_46⟩|⟨hc_67,hc_46⟩
             ·refine aB rfl hc_67 (av (aM (au (aa (vS s_45) ?_))))
              obtain ⟨y_68,hy_69,hc_46⟩:=bind_some hc_46
              refine fZ un9 rfl rfl hy_69 wz (aa (vS y_68) (ah ?_))
              obtain rfl:=ae hc_46
              exact aU (k_40,y_68) hL_47 (ls_ _) rfl (aL rfl)
             ·refine aA rfl hc_67 (aV ?_)
              obtain rfl:=ae hc_46
              obtain rfl:=ae hL_47
              exact aS (s_45) rfl rfl (aL rfl)
          ·rintro s_45 ho_ sl_ H_ hp_ hq_
           subst ho_
           obtain rfl:=ae h_24
           exact aS () trivial (pick_at [0] hp_ rfl) (pre_at hq_ (aL rfl))
         ·refine aA rfl hc_37 (av ?_)
          obtain rfl:=ae h_24
          exact cu
       ·refine aA rfl hc_25 (av ?_)
        obtain rfl:=ae h_24
        exact cu
      ·rintro ⟨⟩ _ sl_ H_ hp_ hq_
       refine aO _ hp_ hq_ (aV ?_)
       obtain rfl:=ae hc_8
       exact aU (k_2,v_23) hL_9 (ls_ _) rfl (aL rfl)
    ·refine aA rfl hc_15 (av (ai (aa (.d (.int .u8 (b_13.toNat:Int))) ?_)))
     cases hc_8
   ·refine aA rfl hc_12 (aV ?_)
    obtain rfl:=ae hc_8
    obtain rfl:=ae hL_9
    exact aS (s_7) rfl rfl (aL rfl)
 ·rintro s_7 ho_ sl_ H_ hp_ hq_
  subst ho_
  refine aO _ hp_ hq_ (ai (aa (vB true) (ah ?_)))
  obtain rfl:=ae hF
  exact ay (aK [(vB true)] ⟨rfl,trivial⟩)
theorem uh {s_1:ByteArray} {c_2:Int} {r:ByteArray} (hF:strings_trimRightByte s_1 c_2=some r) :
  FnM Tryz.prog 140 [(vS s_1),(.d (.int .u8 c_2))] [] (vS r) []:=by
 refine FnM.of_wH ⟨Tryz.prog,23,[],[]⟩ rfl Tryz.func140 rfl rfl (lb_ rfl) (by kernel_rfl) ?_
 unfold strings_trimRightByte at hF
 refine ai (aa (vS (⟨#[]⟩:ByteArray)) (ah (ak ?_)))
 obtain ⟨o_11,hj_12,hF⟩:=bind_some hF
 obtain ⟨nq_21,hj_12⟩:=dA hj_12
 refine dZ (λ(s_8:ByteArray)=>[(0,(vS s_8))]) (λ(s_8:ByteArray)=>[]) (λ(k_3:Nat)=>(λ(s_8:ByteArray)=>[(0,(vS s_8)),(1,(.d (.int .u8 c_2)))])) (λs=>gW c_2 s) o_11 nq_21 s_1 hj_12 rfl (aL rfl) ?_ ?_
 ·rintro ⟨k_3,s_8⟩ hL_10
  dsimp only at hL_10
  cases k_3 with
  | zero=>cases hL_10
  | succ k_3 =>
   obtain ⟨c_,hc_9,hL_10⟩:=bind_some hL_10
   unfold gW at hc_9
   refine ak (ak ?_)
   obtain ⟨v_13,h_14,hc_9⟩:=bind_some hc_9
   refine aQ [(0,(vS s_8)),(1,(.d (.int .u8 c_2))),(16,(vB v_13))] [] ?_ ?_
   ·refine au (aa (vS s_8) (nZ un9 rfl wz (aa (vB (decide ((s_8.size:Int)>0))) ?_)))
    rcases aj h_14 with⟨hc_15,h_14⟩|⟨hc_15,h_14⟩
    ·refine aC rfl hc_15 wz (aG (vS s_8) wa rfl (aG (vS s_8) wa rfl (nZ un9 rfl wa (aG (vI (w64 ((s_8.size:Int)-1))) wa rfl ?_))))
     obtain ⟨b_16,hy_17,h_14⟩:=bind_some h_14
     refine kN un9 rfl rfl hy_17 wa (aG (.d (.int .u8 c_2)) wa rfl (aG (vB ((b_16.toNat:Int)==c_2)) wa rfl (aa (vB ((b_16.toNat:Int)==c_2)) (ah ?_))))
     obtain rfl:=ae h_14
     exact cu
    ·refine aC rfl hc_15 wz (af (af (af (af (af (af (af (aa (vB false) (ah ?_)))))))))
     obtain rfl:=ae h_14
     exact cu
   ·rintro ⟨⟩ _ sl_ H_ hp_ hq_
    refine aO _ hp_ hq_ ?_
    rcases aj hc_9 with⟨hc_18,hc_9⟩|⟨hc_18,hc_9⟩
    ·refine aB rfl hc_18 (av (aM (au (aa (vS s_8) (aa (vS s_8) (nZ un9 rfl wz (aa (vI (w64 ((s_8.size:Int)-1))) ?_)))))))
     obtain ⟨y_19,hy_20,hc_9⟩:=bind_some hc_9
     refine EK un9 rfl rfl hy_20 wz (aa (vS y_19) (ah ?_))
     obtain rfl:=ae hc_9
     exact aU (k_3,y_19) hL_10 (ls_ _) rfl (aL rfl)
    ·refine aA rfl hc_18 (aV ?_)
     obtain rfl:=ae hc_9
     obtain rfl:=ae hL_10
     exact aS (s_8) rfl rfl (aL rfl)
 ·rintro s_8 ho_ sl_ H_ hp_ hq_
  subst ho_
  refine aO _ hp_ hq_ (ai (aa (vS s_8) (aa (vS s_8) (ah ?_))))
  obtain rfl:=ae hF
  exact ay (aK [(vS s_8)] ⟨rfl,trivial⟩)
theorem uG {s_1:ByteArray} {c_2:Int} {r:ByteArray} (hF:strings_trimLeftByte s_1 c_2=some r) :
  FnM Tryz.prog 139 [(vS s_1),(.d (.int .u8 c_2))] [] (vS r) []:=by
 refine FnM.of_wH ⟨Tryz.prog,17,[],[]⟩ rfl Tryz.func139 rfl rfl (lb_ rfl) (by kernel_rfl) ?_
 unfold strings_trimLeftByte at hF
 refine ai (aa (vS (⟨#[]⟩:ByteArray)) (ah (ak ?_)))
 obtain ⟨o_11,hj_12,hF⟩:=bind_some hF
 obtain ⟨nq_21,hj_12⟩:=dA hj_12
 refine dZ (λ(s_8:ByteArray)=>[(0,(vS s_8))]) (λ(s_8:ByteArray)=>[]) (λ(k_3:Nat)=>(λ(s_8:ByteArray)=>[(0,(vS s_8)),(1,(.d (.int .u8 c_2)))])) (λs=>ik c_2 s) o_11 nq_21 s_1 hj_12 rfl (aL rfl) ?_ ?_
 ·rintro ⟨k_3,s_8⟩ hL_10
  dsimp only at hL_10
  cases k_3 with
  | zero=>cases hL_10
  | succ k_3 =>
   obtain ⟨c_,hc_9,hL_10⟩:=bind_some hL_10
   unfold ik at hc_9
   refine ak (ak ?_)
   obtain ⟨v_13,h_14,hc_9⟩:=bind_some hc_9
   refine aQ [(0,(vS s_8)),(1,(.d (.int .u8 c_2))),(13,(vB v_13))] [] ?_ ?_
   ·refine au (aa (vS s_8) (nZ un9 rfl wz (aa (vB (decide ((s_8.size:Int)>0))) ?_)))
    rcases aj h_14 with⟨hc_15,h_14⟩|⟨hc_15,h_14⟩
    ·refine aC rfl hc_15 wz (aG (vS s_8) wa rfl ?_)
     obtain ⟨b_16,hy_17,h_14⟩:=bind_some h_14
     refine kN un9 rfl rfl hy_17 wa (aG (.d (.int .u8 c_2)) wa rfl (aG (vB ((b_16.toNat:Int)==c_2)) wa rfl (aa (vB ((b_16.toNat:Int)==c_2)) (ah ?_))))
     obtain rfl:=ae h_14
     exact cu
    ·refine aC rfl hc_15 wz (af (af (af (af (aa (vB false) (ah ?_))))))
     obtain rfl:=ae h_14
     exact cu
   ·rintro ⟨⟩ _ sl_ H_ hp_ hq_
    refine aO _ hp_ hq_ ?_
    rcases aj hc_9 with⟨hc_18,hc_9⟩|⟨hc_18,hc_9⟩
    ·refine aB rfl hc_18 (av (aM (au (aa (vS s_8) ?_))))
     obtain ⟨y_19,hy_20,hc_9⟩:=bind_some hc_9
     refine fZ un9 rfl rfl hy_20 wz (aa (vS y_19) (ah ?_))
     obtain rfl:=ae hc_9
     exact aU (k_3,y_19) hL_10 (ls_ _) rfl (aL rfl)
    ·refine aA rfl hc_18 (aV ?_)
     obtain rfl:=ae hc_9
     obtain rfl:=ae hL_10
     exact aS (s_8) rfl rfl (aL rfl)
 ·rintro s_8 ho_ sl_ H_ hp_ hq_
  subst ho_
  refine aO _ hp_ hq_ (ai (aa (vS s_8) (aa (vS s_8) (ah ?_))))
  obtain rfl:=ae hF
  exact ay (aK [(vS s_8)] ⟨rfl,trivial⟩)
theorem CJ {s_1:ByteArray} {cutset_2:ByteArray} {r:ByteArray} (hF:oJ s_1 cutset_2=some r) :
  FnM Tryz.prog 132 [(vS s_1),(vS cutset_2)] [] (vS r) []:=by
 refine FnM.of_wH ⟨Tryz.prog,43,[],[]⟩ rfl Tryz.func132 rfl rfl (lb_ rfl) (by kernel_rfl) ?_
 unfold oJ at hF
 refine ai (aa (vS (⟨#[]⟩:ByteArray)) (ah (ak (ak ?_))))
 obtain ⟨v_3,h_4,hF⟩:=bind_some hF
 refine aQ [(0,(vS s_1)),(1,(vS cutset_2)),(12,(vB v_3))] [] ?_ ?_
 ·refine au (aa (vS s_1) (aa (vB (sEq s_1 (⟨#[]⟩:ByteArray))) ?_))
  rcases aj h_4 with⟨hc_5,h_4⟩|⟨hc_5,h_4⟩
  ·refine aC rfl hc_5 wz (af (af (aa (vB true) (ah ?_))))
   obtain rfl:=ae h_4
   exact cu
  ·refine aC rfl hc_5 wz (aG (vS cutset_2) wa rfl (aG (vB (sEq cutset_2 (⟨#[]⟩:ByteArray))) wa rfl (aa (vB (sEq cutset_2 (⟨#[]⟩:ByteArray))) (ah ?_))))
   obtain rfl:=ae h_4
   exact cu
 ·rintro ⟨⟩ _ sl_ H_ hp_ hq_
  refine aO _ hp_ hq_ ?_
  rcases aj hF with⟨hc_6,hF⟩|⟨hc_6,hF⟩
  ·refine aB rfl hc_6 (ai (aa (vS s_1) (aa (vS s_1) (ah ?_))))
   obtain rfl:=ae hF
   exact ay (aK [(vS s_1)] ⟨rfl,trivial⟩)
  ·refine aA rfl hc_6 (av (ak (ak ?_)))
   obtain ⟨v_7,h_8,hF⟩:=bind_some hF
   refine aQ [(0,(vS s_1)),(1,(vS cutset_2)),(21,(vB v_7))] [] ?_ ?_
   ·refine au (aa (vS cutset_2) (nZ un9 rfl wz (aa (vB ((cutset_2.size:Int)==1)) ?_)))
    rcases aj h_8 with⟨hc_9,h_8⟩|⟨hc_9,h_8⟩
    ·refine aC rfl hc_9 wz (aG (vS cutset_2) wa rfl ?_)
     obtain ⟨b_10,hy_11,h_8⟩:=bind_some h_8
     refine kN un9 rfl rfl hy_11 wa (aG (vB (decide ((b_10.toNat:Int)<128))) wa rfl (aa (vB (decide ((b_10.toNat:Int)<128))) (ah ?_)))
     obtain rfl:=ae h_8
     exact cu
    ·refine aC rfl hc_9 wz (af (af (af (aa (vB false) (ah ?_)))))
     obtain rfl:=ae h_8
     exact cu
   ·rintro ⟨⟩ _ sl_ H_ hp_ hq_
    refine aO _ hp_ hq_ ?_
    rcases aj hF with⟨hc_12,hF⟩|⟨hc_12,hF⟩
    ·refine aB rfl hc_12 (ak (bB (aa (vS s_1) (aa (vS cutset_2) ?_))))
     obtain ⟨b_13,hy_14,hF⟩:=bind_some hF
     refine kN un9 rfl rfl hy_14 wz ?_
     obtain ⟨r_15,hr_16,hF⟩:=bind_some hF
     refine aD (uh hr_16) rfl hb140 rfl rfl rfl rfl wz (aa (vS cutset_2) ?_)
     obtain ⟨b_17,hy_18,hF⟩:=bind_some hF
     refine kN un9 rfl rfl hy_18 wz ?_
     obtain ⟨r_19,hr_20,hF⟩:=bind_some hF
     refine aD (uG hr_20) rfl hb139 rfl rfl rfl rfl wz (aa (vS r_19) (ah ?_))
     obtain rfl:=ae hF
     exact ay (aK [(vS r_19)] ⟨rfl,trivial⟩)
    ·refine aA rfl hc_12 (av (ak (ai (aa (vS cutset_2) ?_))))
     cases hF
theorem oG {s_1:ByteArray} {c_2:Int} {r:Int} (hF:gL s_1 c_2=some r) :
  FnM Tryz.prog 156 [(vS s_1),(.d (.int .u8 c_2))] [] (vI r) []:=by
 refine FnM.of_wH ⟨Tryz.prog,8,[],[]⟩ rfl Tryz.func156 rfl rfl (lb_ rfl) (by kernel_rfl) ?_
 unfold gL at hF
 refine ai (aa (vI 0) (ah (ai (aa (vS s_1) (aa (.d (.int .u8 c_2)) (h_ext (ext_ixB (f:=162) Tryz.func162 rfl rfl (by kernel_rfl) (by kernel_rfl) _ _) rfl nb162 rfl wz (aa (vI (ixB s_1 c_2)) (ah ?_))))))))
 obtain rfl:=ae hF
 exact ay (aK [(vI (ixB s_1 c_2))] ⟨rfl,trivial⟩)
theorem qF {s_1:ByteArray} {substr_2:ByteArray} {r:Int} (hF:iZ s_1 substr_2=some r) :
  FnM Tryz.prog 152 [(vS s_1),(vS substr_2)] [] (vI r) []:=by
 refine FnM.of_wH ⟨Tryz.prog,143,[],[]⟩ rfl Tryz.func152 rfl rfl (lb_ rfl) (by kernel_rfl) ?_
 unfold iZ at hF
 refine ai (aa (vI 0) (ah (ai (aa (vS substr_2) (nZ un9 rfl wz (aa (vI (substr_2.size:Int)) (ah (ak (aM (ak ?_))))))))))
 obtain ⟨v_3,h_4,hF⟩:=bind_some hF
 refine aQ [(0,(vS s_1)),(1,(vS substr_2)),(5,(vI (substr_2.size:Int))),(16,(vB v_3))] [] ?_ ?_
 ·refine au (aa (vI (substr_2.size:Int)) (aa (vB ((substr_2.size:Int)==0)) ?_))
  rcases aj h_4 with⟨hc_5,h_4⟩|⟨hc_5,h_4⟩
  ·refine aC rfl hc_5 wz (af (af (af (aa (vB true) (aa (vB true) (ah ?_))))))
   obtain rfl:=ae h_4
   exact cu
  ·refine aC rfl hc_5 wz (aG (vS substr_2) wa rfl (aG (vS s_1) wa rfl (aG (vB (sEq substr_2 s_1)) wa rfl (aa (vB (sEq substr_2 s_1)) (aa (vB (sEq substr_2 s_1)) (ah ?_))))))
   obtain rfl:=ae h_4
   exact cu
 ·rintro ⟨⟩ _ sl_ H_ hp_ hq_
  refine aO _ hp_ hq_ ?_
  rcases aj hF with⟨hc_6,hF⟩|⟨hc_6,hF⟩
  ·refine aB rfl hc_6 (ai (aa (vI 0) (ah ?_)))
   obtain rfl:=ae hF
   exact ay (aK [(vI 0)] ⟨rfl,trivial⟩)
  ·refine aA rfl hc_6 (ai (aa (vI (substr_2.size:Int)) (aa (vB ((substr_2.size:Int)==1)) (aa (vB ((substr_2.size:Int)==1)) (ah ?_)))))
   rcases aj hF with⟨hc_7,hF⟩|⟨hc_7,hF⟩
   ·refine aB rfl hc_7 (ai (aa (vS s_1) (aa (vS substr_2) ?_)))
    obtain ⟨b_8,hy_9,hF⟩:=bind_some hF
    refine kN un9 rfl rfl hy_9 wz ?_
    obtain ⟨r_10,hr_11,hF⟩:=bind_some hF
    refine aD (oG hr_11) rfl hb156 rfl rfl rfl rfl wz (aa (vI r_10) (ah ?_))
    obtain rfl:=ae hF
    exact ay (aK [(vI r_10)] ⟨rfl,trivial⟩)
   ·refine aA rfl hc_7 (ai (aa (vI (substr_2.size:Int)) (aa (vS s_1) (nZ un9 rfl wz (aa (vB (decide ((substr_2.size:Int)>=(s_1.size:Int)))) (aa (vB (decide ((substr_2.size:Int)>=(s_1.size:Int)))) (ah ?_)))))))
    rcases aj hF with⟨hc_12,hF⟩|⟨hc_12,hF⟩
    ·refine aB rfl hc_12 (ai (aa (vI (-1)) (ah ?_)))
     obtain rfl:=ae hF
     exact ay (aK [(vI (-1))] ⟨rfl,trivial⟩)
    ·refine aA rfl hc_12 (ai (aa (vI (substr_2.size:Int)) ?_))
     cases hF
theorem BK {s_1:ByteArray} {substr_2:ByteArray} {r:Int} (hF:strings_Index s_1 substr_2=some r) :
  FnM Tryz.prog 146 [(vS s_1),(vS substr_2)] [] (vI r) []:=by
 refine FnM.of_wH ⟨Tryz.prog,8,[],[]⟩ rfl Tryz.func146 rfl rfl (lb_ rfl) (by kernel_rfl) ?_
 unfold strings_Index at hF
 refine ai (aa (vI 0) (ah (ai (aa (vS s_1) (aa (vS substr_2) ?_)))))
 obtain ⟨r_3,hr_4,hF⟩:=bind_some hF
 refine aD (qF hr_4) rfl hb152 rfl rfl rfl rfl wz (aa (vI r_3) (ah ?_))
 obtain rfl:=ae hF
 exact ay (aK [(vI r_3)] ⟨rfl,trivial⟩)
theorem yI {s_1:ByteArray} {substr_2:ByteArray} {r:Bool} (hF:strings_Contains s_1 substr_2=some r) :
  FnM Tryz.prog 133 [(vS s_1),(vS substr_2)] [] (vB r) []:=by
 refine FnM.of_wH ⟨Tryz.prog,9,[],[]⟩ rfl Tryz.func133 rfl rfl (lb_ rfl) (by kernel_rfl) ?_
 unfold strings_Contains at hF
 refine ai (aa (vB false) (ah (ai (aa (vS s_1) (aa (vS substr_2) ?_)))))
 obtain ⟨r_3,hr_4,hF⟩:=bind_some hF
 refine aD (BK hr_4) rfl hb146 rfl rfl rfl rfl wz (aa (vB (decide (r_3>=0))) (aa (vB (decide (r_3>=0))) (ah ?_)))
 obtain rfl:=ae hF
 exact ay (aK [(vB (decide (r_3>=0)))] ⟨rfl,trivial⟩)
theorem Ee {s_1:ByteArray} {r:Bool} (hF:qA s_1=some r) :
  FnM Tryz.prog 115 [(vS s_1)] [] (vB r) []:=by
 refine FnM.of_wH ⟨Tryz.prog,33,[],[]⟩ rfl Tryz.func115 rfl rfl (lb_ rfl) (by kernel_rfl) ?_
 unfold qA at hF
 refine ai (aa (vB false) (ah (ak (ai (aa (vI 0) (ah ?_))))))
 obtain ⟨o_10,hj_11,hF⟩:=bind_some hF
 obtain ⟨nq_31,hj_11⟩:=dA hj_11
 refine dZ (λ(s_7:Int)=>[(0,(vS s_1))]) (λ(s_7:Int)=>[]) (λ(k_2:Nat)=>(λ(s_7:Int)=>[(0,(vS s_1)),(3,(vI s_7))])) (λs=>oM s_1 s) o_10 nq_31 0 hj_11 rfl (aL rfl) ?_ ?_
 ·rintro ⟨k_2,s_7⟩ hL_9
  dsimp only at hL_9
  cases k_2 with
  | zero=>cases hL_9
  | succ k_2 =>
   obtain ⟨c_,hc_8,hL_9⟩:=bind_some hL_9
   unfold oM at hc_8
   refine ak (ai (aa (vI s_7) (aa (vS s_1) (nZ un9 rfl wz (aa (vB (decide (s_7<(s_1.size:Int)))) (ah ?_))))))
   rcases aj hc_8 with⟨hc_12,hc_8⟩|⟨hc_12,hc_8⟩
   ·refine aB rfl hc_12 (av (ak (aM (ak ?_))))
    obtain ⟨v_13,h_14,hc_8⟩:=bind_some hc_8
    refine aQ [(0,(vS s_1)),(3,(vI s_7)),(19,(vB v_13))] [] ?_ ?_
    ·refine au (aa (vS s_1) (aa (vI s_7) ?_))
     obtain ⟨b_15,hy_16,h_14⟩:=bind_some h_14
     refine kN un9 rfl rfl hy_16 wz (aa (vB (decide ((b_15.toNat:Int)<32))) ?_)
     rcases aj h_14 with⟨hc_17,h_14⟩|⟨hc_17,h_14⟩
     ·refine aC rfl hc_17 wz (af (af (af (af (aa (vB true) (ah ?_))))))
      obtain rfl:=ae h_14
      exact cu
     ·refine aC rfl hc_17 wz (aG (vS s_1) wa rfl (aG (vI s_7) wa rfl ?_))
      obtain ⟨b_18,hy_19,h_14⟩:=bind_some h_14
      refine kN un9 rfl rfl hy_19 wa (aG (vB ((b_18.toNat:Int)==127)) wa rfl (aa (vB ((b_18.toNat:Int)==127)) (ah ?_)))
      obtain rfl:=ae h_14
      exact cu
    ·rintro ⟨⟩ _ sl_ H_ hp_ hq_
     refine aO _ hp_ hq_ ?_
     rcases aj hc_8 with⟨hc_20,hc_8⟩|⟨hc_20,hc_8⟩
     ·refine aB rfl hc_20 (ai (aa (vB false) (ah ?_)))
      obtain rfl:=ae hc_8
      obtain rfl:=ae hL_9
      obtain rfl:=ae hF
      exact ay (aK [(vB false)] ⟨rfl,trivial⟩)
     ·refine aA rfl hc_20 (av (au (aa (vI s_7) (aa (vI (w64 (s_7+1))) (aa (vI (w64 (s_7+1))) (ah ?_))))))
      obtain rfl:=ae hc_8
      exact aU (k_2,(w64 (s_7+1))) hL_9 (ls_ _) rfl (aL rfl)
   ·refine aA rfl hc_12 (aV ?_)
    obtain rfl:=ae hc_8
    obtain rfl:=ae hL_9
    exact aS (s_7) rfl rfl (aL rfl)
 ·rintro s_7 ho_ sl_ H_ hp_ hq_
  subst ho_
  refine aO _ hp_ hq_ (ak ?_)
  obtain ⟨v_21,h_22,hF⟩:=bind_some hF
  refine aQ [(2,(vB v_21))] [] ?_ ?_
  ·refine au (aa (vS s_1) ?_)
   obtain ⟨r_23,hr_24,h_22⟩:=bind_some h_22
   refine aD (rO hr_24) rfl hb131 rfl rfl rfl rfl wz ?_
   rcases aj h_22 with⟨hc_25,h_22⟩|⟨hc_25,h_22⟩
   ·refine aC rfl hc_25 wz (aG (vS s_1) wa rfl ?_)
    obtain ⟨r_26,hr_27,h_22⟩:=bind_some h_22
    refine aD (CJ hr_27) rfl hb132 rfl rfl rfl rfl wa (aG (vS s_1) wa rfl (aG (vB (sEq r_26 s_1)) wa rfl (aa (vB (sEq r_26 s_1)) ?_)))
    rcases aj h_22 with⟨hc_28,h_22⟩|⟨hc_28,h_22⟩
    ·refine aC rfl hc_28 wz (aG (vS s_1) wa rfl ?_)
     obtain ⟨r_29,hr_30,h_22⟩:=bind_some h_22
     refine aD (yI hr_30) rfl hb133 rfl rfl rfl rfl wa (aG (vB (!r_29)) wa rfl (aa (vB (!r_29)) (aa (vB (!r_29)) (ah ?_))))
     obtain rfl:=ae h_22
     exact cu
    ·refine aC rfl hc_28 wz (af (af (af (aa (vB false) (aa (vB false) (ah ?_))))))
     obtain rfl:=ae h_22
     exact cu
   ·refine aC rfl hc_25 wz (af (af (af (af (aa (vB false) (aa (vB false) (af (af (af (aa (vB false) (aa (vB false) (ah ?_))))))))))))
    obtain rfl:=ae h_22
    exact cu
  ·rintro ⟨⟩ _ sl_ H_ hp_ hq_
   refine aO _ hp_ hq_ ?_
   obtain rfl:=ae hF
   exact ay (aK [(vB v_21)] ⟨rfl,trivial⟩)
theorem yL {a_1:Alert} {r:Int} (hF:j6 a_1=some r) :
  FnM Tryz.prog 94 [(.d (.agg (Alert.enc a_1)))] [] (vI r) []:=by
 refine FnM.of_wH ⟨Tryz.prog,92,[],[]⟩ rfl Tryz.func94 rfl rfl (lb_ rfl) (by kernel_rfl) ?_
 unfold j6 at hF
 refine ai (ig 0 (.inl rfl) (Alert.v a_1) rfl rfl wz (λn_2=>aa (vI 0) (ah (ak (ak ?_)))))
 obtain ⟨v_3,h_4,hF⟩:=bind_some hF
 refine aQ [(1,(.ref n_2 0 0)),(17,(vB v_3))] [(n_2,some (.cells 9 (Alert.v a_1)))] ?_ ?_
 ·refine au (aH BR rfl 0 rfl wz (aF 0 0 il ft sz9 ag9 rfl rfl (vS a_1.Id) rfl wz ?_))
  obtain ⟨r_5,hr_6,h_4⟩:=bind_some h_4
  refine aD (fD hr_6) rfl CF rfl rfl rfl rfl wz (aa (vB (!r_5)) ?_)
  rcases aj h_4 with⟨hc_7,h_4⟩|⟨hc_7,h_4⟩
  ·refine aC rfl hc_7 wz (af (af (af (af (aa (vB true) (ah ?_))))))
   obtain rfl:=ae h_4
   exact cu
  ·refine aC rfl hc_7 wz (aH pl79_1 rfl 1 rfl wa (aF 0 0 il ft sz9 ag9 rfl rfl (vS a_1.Sender) rfl wa ?_))
   obtain ⟨r_8,hr_9,h_4⟩:=bind_some h_4
   refine aD (fD hr_9) rfl CF rfl rfl rfl rfl wa (aG (vB (!r_8)) wa rfl (aa (vB (!r_8)) (ah ?_)))
   obtain rfl:=ae h_4
   exact cu
 ·rintro ⟨⟩ _ sl_ H_ hp_ hq_
  refine aO _ hp_ hq_ ?_
  rcases aj hF with⟨hc_10,hF⟩|⟨hc_10,hF⟩
  ·refine aB rfl hc_10 (ai (aa (vI 5) (ah ?_)))
   obtain rfl:=ae hF
   exact ay (aK [(vI 5)] ⟨rfl,trivial⟩)
  ·refine aA rfl hc_10 (av (ak (ai (aH K3 rfl 2 rfl wz (aF 0 0 il ft sz3 ag3 rfl rfl (vI a_1.Kind) rfl wz ?_)))))
   obtain ⟨r_11,hr_12,hF⟩:=bind_some hF
   refine aD (bn hr_12) rfl qM rfl rfl rfl rfl wz (ah ?_)
   rcases aj hF with⟨hc_13,hF⟩|⟨hc_13,hF⟩
   ·refine aB rfl hc_13 (ai (aa (vI 4) (ah ?_)))
    obtain rfl:=ae hF
    exact ay (aK [(vI 4)] ⟨rfl,trivial⟩)
   ·refine aA rfl hc_13 (av (ak (ai (aF 0 0 il ft CP Ie rfl rfl (.d (.agg (Alert.enc a_1))) rfl wz ?_))))
    obtain ⟨r_14,hr_15,hF⟩:=bind_some hF
    refine aD (zq hr_15) rfl hb114 rfl rfl rfl rfl wz (aa (vI r_14) (ah (ai (aa (vI r_14) (aa (vB (r_14 != 0)) (ah ?_))))))
    rcases aj hF with⟨hc_16,hF⟩|⟨hc_16,hF⟩
    ·refine aB rfl hc_16 (ai (aa (vI r_14) (aa (vI r_14) (ah ?_))))
     obtain rfl:=ae hF
     exact ay (aK [(vI r_14)] ⟨rfl,trivial⟩)
    ·refine aA rfl hc_16 (av (ak (ak ?_)))
     obtain ⟨v_17,h_18,hF⟩:=bind_some hF
     refine aQ [(1,(.ref n_2 0 0)),(45,(vB v_17))] [(n_2,some (.cells 9 (Alert.v a_1)))] ?_ ?_
     ·refine au (aH Fv rfl 4 rfl wz (aF 0 0 il ft sz3 ag3 rfl rfl (vI a_1.At) rfl wz ?_))
      obtain ⟨r_19,hr_20,h_18⟩:=bind_some h_18
      refine aD (iI hr_20) rfl KZ rfl rfl rfl rfl wz (aa (vB (!r_19)) ?_)
      rcases aj h_18 with⟨hc_21,h_18⟩|⟨hc_21,h_18⟩
      ·refine aC rfl hc_21 wz (af (af (af (af (af (af (af (af (af (aa (vB true) (aa (vB true) (af (af (af (aa (vB true) (ah ?_))))))))))))))))
       obtain rfl:=ae h_18
       exact cu
      ·refine aC rfl hc_21 wz (aH pl79_5 rfl 5 rfl wa (aF 0 0 il ft sz3 ag3 rfl rfl (vI a_1.Until) rfl wa (aH Fv rfl 4 rfl wa (aF 0 0 il ft sz3 ag3 rfl rfl (vI a_1.At) rfl wa (aG (vI (w64 (a_1.At+1))) wa rfl (aH Fv rfl 4 rfl wa (aF 0 0 il ft sz3 ag3 rfl rfl (vI a_1.At) rfl wa (aG (vI (w64 (a_1.At+2592000000))) wa rfl ?_))))))))
       obtain ⟨r_22,hr_23,h_18⟩:=bind_some h_18
       refine aD (bn hr_23) rfl qM rfl rfl rfl rfl wa (aa (vB r_22) ?_)
       rcases aj h_18 with⟨hc_24,h_18⟩|⟨hc_24,h_18⟩
       ·refine aC rfl hc_24 wz (af (af (af (aa (vB true) (ah ?_)))))
        obtain rfl:=ae h_18
        exact cu
       ·refine aC rfl hc_24 wz (aH pl79_6 rfl 6 rfl wa (aF 0 0 il ft sz3 ag3 rfl rfl (vI a_1.Weight) rfl wa ?_))
        obtain ⟨r_25,hr_26,h_18⟩:=bind_some h_18
        refine aD (bn hr_26) rfl qM rfl rfl rfl rfl wa (aa (vB r_25) (ah ?_))
        obtain rfl:=ae h_18
        exact cu
     ·rintro ⟨⟩ _ sl_ H_ hp_ hq_
      refine aO _ hp_ hq_ ?_
      rcases aj hF with⟨hc_27,hF⟩|⟨hc_27,hF⟩
      ·refine aB rfl hc_27 (ai (aa (vI 1) (ah ?_)))
       obtain rfl:=ae hF
       exact ay (aK [(vI 1)] ⟨rfl,trivial⟩)
      ·refine aA rfl hc_27 (av (ak (ai (aH GL rfl 7 rfl wz (aF 0 0 il ft NG MV rfl rfl (vL Rect.enc a_1.Areas) rfl wz (bR Be rfl wz (aa (vB (decide ((a_1.Areas.length:Int)>20))) (ah ?_))))))))
       rcases aj hF with⟨hc_28,hF⟩|⟨hc_28,hF⟩
       ·refine aB rfl hc_28 (ai (aa (vI 2) (ah ?_)))
        obtain rfl:=ae hF
        exact ay (aK [(vI 2)] ⟨rfl,trivial⟩)
       ·refine aA rfl hc_28 (av (ak (ai (aH GL rfl 7 rfl wz (aF 0 0 il ft NG MV rfl rfl (vL Rect.enc a_1.Areas) rfl wz (bR Be rfl wz (aa (vI 0) (ah ?_))))))))
        obtain ⟨o_37,hj_38,hF⟩:=bind_some hF
        obtain ⟨hn_33,hj_38⟩:=bf hj_38
        refine cz (λ(s_34:Unit)=>[(1,(.ref n_2 0 0))]) (λ(s_34:Unit)=>[(n_2,some (.cells 9 (Alert.v a_1)))]) (λ(k_29:Nat)=>(λ(s_34:Unit)=>[(1,(.ref n_2 0 0)),(51,(vL Rect.enc a_1.Areas)),(52,(vI (a_1.Areas.length:Int))),(53,(vI (k_29:Int)))])) (λk x s=>jV k x s) o_37 a_1.Areas () hj_38 rfl (aL rfl) ?_ ?_
        ·rintro ⟨k_29,l_30,s_34⟩ ⟨hL_36,hD_32⟩
         dsimp only at hL_36 hD_32
         cases l_30 with
         | nil =>
          obtain rfl:=ae hL_36
          refine ai (aa (vB (decide ((k_29:Int)<(a_1.Areas.length:Int)))) (ah ?_))
          refine ak (aA rfl (drop_nil hD_32) (aV ?_))
          exact aS (s_34) rfl rfl (aL rfl)
         | cons x_31 l_30 =>
          obtain ⟨c_,hc_35,hL_36⟩:=bind_some hL_36
          refine ai (aa (vB (decide ((k_29:Int)<(a_1.Areas.length:Int)))) (ah ?_))
          refine ak (aB rfl (bv hD_32) (av ?_))
          unfold jV at hc_35
          refine ak (aM (ai (dD HZ rfl rfl (bI hD_32) rfl wz (bE xI Ja rfl (.d (.agg (Rect.enc x_31))) rfl wz (dB 0 (.inl rfl) z66 rfl wz (λn_39=>fE 0 il ft 1 xI rfl rfl (Rect.v x_31) rfl wz (ah (ai (aF 0 1 il ft xI Ja rfl rfl (.d (.agg (Rect.enc x_31))) rfl wz ?_)))))))))
          obtain ⟨r_40,hr_41,hc_35⟩:=bind_some hc_35
          refine aD (rA hr_41) rfl hb61 rfl rfl rfl rfl wz (aa (vI r_40) (ah (ai (aa (vI r_40) (aa (vB (r_40 != 0)) (ah ?_))))))
          rcases aj hc_35 with⟨hc_42,hc_35⟩|⟨hc_42,hc_35⟩
          ·refine aB rfl hc_42 (ai (aa (vI r_40) (aa (vI r_40) (ah ?_))))
           obtain rfl:=ae hc_35
           obtain rfl:=ae hL_36
           obtain rfl:=ae hF
           exact ay (aK [(vI r_40)] ⟨rfl,trivial⟩)
          ·refine aA rfl hc_42 (av (au (dS (bC hD_32 hn_33) wz rfl (aa (vI ((k_29+1:Nat):Int)) (ah ?_)))))
           obtain rfl:=ae hc_35
           exact aU (k_29+1,l_30,()) ⟨hL_36,aX hD_32⟩ (ls_ _) rfl (aL rfl)
        ·rintro s_34 ho_ sl_ H_ hp_ hq_
         subst ho_
         refine aO _ hp_ hq_ (ai (aH K3 rfl 2 rfl wz (aF 0 0 il ft sz3 ag3 rfl rfl (vI a_1.Kind) rfl wz (aa (vB (a_1.Kind==3)) (aa (vB (a_1.Kind==3)) (ah (ak (aM (ai (aa (vB (a_1.Kind==3)) (aH GL rfl 7 rfl wz (aF 0 0 il ft NG MV rfl rfl (vL Rect.enc a_1.Areas) rfl wz (bR Be rfl wz (aa (vB ((a_1.Areas.length:Int)==0)) (Kl un4 rfl rfl wz (aa (vB (!((a_1.Kind==3)==((a_1.Areas.length:Int)==0)))) (ah ?_)))))))))))))))))
         rcases aj hF with⟨hc_43,hF⟩|⟨hc_43,hF⟩
         ·refine aB rfl hc_43 (ai (aa (vI 3) (ah ?_)))
          obtain rfl:=ae hF
          exact ay (aK [(vI 3)] ⟨rfl,trivial⟩)
         ·refine aA rfl hc_43 (ai (aH KS rfl 8 rfl wz (aF 0 0 il ft sz9 ag9 rfl rfl (vS a_1.Text) rfl wz (nZ un9 rfl wz (aa (vB (decide ((a_1.Text.size:Int)>500))) (aa (vB (decide ((a_1.Text.size:Int)>500))) (ah ?_)))))))
          rcases aj hF with⟨hc_44,hF⟩|⟨hc_44,hF⟩
          ·refine aB rfl hc_44 (ai (aa (vI 2) (ah ?_)))
           obtain rfl:=ae hF
           exact ay (aK [(vI 2)] ⟨rfl,trivial⟩)
          ·refine aA rfl hc_44 (ak ?_)
           obtain ⟨v_45,h_46,hF⟩:=bind_some hF
           refine aQ [(78,(vB v_45))] [(n_2,some (.cells 9 (Alert.v a_1)))] ?_ ?_
           ·refine au (aH KS rfl 8 rfl wz (aF 0 0 il ft sz9 ag9 rfl rfl (vS a_1.Text) rfl wz ?_))
            obtain ⟨r_47,hr_48,h_46⟩:=bind_some h_46
            refine aD (Ee hr_48) rfl hb115 rfl rfl rfl rfl wz (aa (vB (!r_47)) ?_)
            rcases aj h_46 with⟨hc_49,h_46⟩|⟨hc_49,h_46⟩
            ·refine aC rfl hc_49 wz (af (af (af (af (aY (wn rfl rfl) (aY (wn rfl rfl) (af (aa (vB true) (aa (vB true) (ah ?_))))))))))
             obtain rfl:=ae h_46
             exact cu
            ·refine aC rfl hc_49 wz (aH KS rfl 8 rfl wa (aF 0 0 il ft sz9 ag9 rfl rfl (vS a_1.Text) rfl wa (aG (vB (sEq a_1.Text (⟨#[]⟩:ByteArray))) wa rfl ?_)))
             rcases aj h_46 with⟨hc_50,h_46⟩|⟨hc_50,h_46⟩
             ·refine aC rfl hc_50 wa (aG (vB (a_1.Kind==3)) wa rfl (aG (vB (!(a_1.Kind==3))) wa rfl (aG (vB (!(a_1.Kind==3))) wa rfl (aa (vB (!(a_1.Kind==3))) (aa (vB (!(a_1.Kind==3))) (ah ?_))))))
              obtain rfl:=ae h_46
              exact cu
             ·refine aC rfl hc_50 wa (af (af (aG (vB false) wa rfl (aa (vB false) (aa (vB false) (ah ?_))))))
              obtain rfl:=ae h_46
              exact cu
           ·rintro ⟨⟩ _ sl_ H_ hp_ hq_
            refine aO _ hp_ hq_ ?_
            rcases aj hF with⟨hc_51,hF⟩|⟨hc_51,hF⟩
            ·refine aB rfl hc_51 (ai (aa (vI 3) (ah ?_)))
             obtain rfl:=ae hF
             exact ay (aK [(vI 3)] ⟨rfl,trivial⟩)
            ·refine aA rfl hc_51 (av (ai (aa (vI 0) (ah ?_))))
             obtain rfl:=ae hF
             exact ay (aK [(vI 0)] ⟨rfl,trivial⟩)
theorem Bc {a_1:Alert} {b_2:Alert} {r:Int} (hF:p9 a_1 b_2=some r) :
  FnM Tryz.prog 95 [(.d (.agg (Alert.enc a_1))),(.d (.agg (Alert.enc b_2)))] [] (vI r) []:=by
 refine FnM.of_wH ⟨Tryz.prog,17,[],[]⟩ rfl Tryz.func95 rfl rfl (lb_ rfl) (by kernel_rfl) ?_
 unfold p9 at hF
 refine ai (ig 0 (.inl rfl) (Alert.v a_1) rfl rfl wz (λn_3=>ig 0 (.inl rfl) (Alert.v b_2) rfl rfl wz (λn_4=>aa (vI 0) (ah (ak (bB (aH Fv rfl 4 rfl wz (aF 1 0 (.inr (by kernel_rfl)) (λ_ _ ag=>trivial) sz3 ag3 rfl rfl (vI a_1.At) rfl wz (aH Fv rfl 4 rfl wz (aF 3 1 (.inr (by kernel_rfl)) (λ_ _ ag=>⟨.inl ⟨rfl,rfl⟩,trivial⟩) sz3 ag3 rfl rfl (vI b_2.At) rfl wz ?_))))))))))
 obtain ⟨r_5,hr_6,hF⟩:=bind_some hF
 refine aD (sU hr_6) rfl hb113 rfl rfl rfl rfl wz (aH BR rfl 0 rfl wz (aF 6 0 (.inr (by kernel_rfl)) (λ_ _ ag=>⟨.inl ⟨rfl,rfl⟩,⟨.inl ⟨rfl,rfl⟩,trivial⟩⟩) sz9 ag9 rfl rfl (vS a_1.Id) rfl wz (aH BR rfl 0 rfl wz (aF 8 1 (.inr (by kernel_rfl)) (λ_ _ ag=>⟨.inl ⟨rfl,rfl⟩,⟨.inl ⟨rfl,rfl⟩,⟨.inl ⟨rfl,rfl⟩,trivial⟩⟩⟩) sz9 ag9 rfl rfl (vS b_2.Id) rfl wz ?_))))
 obtain ⟨r_7,hr_8,hF⟩:=bind_some hF
 refine aD (kX hr_8) rfl hb80 rfl rfl rfl rfl wz (gm (([r_5,r_7]:List Int).map eI) gK CK rfl rfl rfl rfl rfl wz ?_)
 obtain ⟨r_9,hr_10,hF⟩:=bind_some hF
 refine aD (yU hr_10) rfl hb112 rfl rfl rfl rfl wz (aa (vI r_9) (ah ?_))
 obtain rfl:=ae hF
 exact ay (aK [(vI r_9)] ⟨rfl,trivial⟩)
theorem xK {l_1:(List Alert)} {r:Int} (hF:jH l_1=some r) :
  FnM Tryz.prog 74 [(vL Alert.enc l_1)] [] (vI r) []:=by
 refine FnM.of_wH ⟨Tryz.prog,52,[],[]⟩ rfl Tryz.func74 rfl rfl (lb_ rfl) (by kernel_rfl) ?_
 unfold jH at hF
 refine ai (aa (vI 0) (ah (ak (ai (aa (vL Alert.enc l_1) (bR Pf rfl wz (aa (vB (decide ((l_1.length:Int)>300))) (ah ?_))))))))
 rcases aj hF with⟨hc_2,hF⟩|⟨hc_2,hF⟩
 ·refine aB rfl hc_2 (ai (aa (vI 2) (ah ?_)))
  obtain rfl:=ae hF
  exact ay (aK [(vI 2)] ⟨rfl,trivial⟩)
 ·refine aA rfl hc_2 (av (ak (ai (aa (vL Alert.enc l_1) (bR Pf rfl wz (aa (vI 0) (ah ?_)))))))
  obtain ⟨o_11,hj_12,hF⟩:=bind_some hF
  obtain ⟨hn_7,hj_12⟩:=bf hj_12
  refine cz (λ(s_8:Unit)=>[(0,(vL Alert.enc l_1))]) (λ(s_8:Unit)=>[]) (λ(k_3:Nat)=>(λ(s_8:Unit)=>[(0,(vL Alert.enc l_1)),(12,(vL Alert.enc l_1)),(13,(vI (l_1.length:Int))),(14,(vI (k_3:Int)))])) (λk x s=>gY l_1 k x s) o_11 l_1 () hj_12 rfl (aL rfl) ?_ ?_
  ·rintro ⟨k_3,l_4,s_8⟩ ⟨hL_10,hD_6⟩
   dsimp only at hL_10 hD_6
   cases l_4 with
   | nil =>
    obtain rfl:=ae hL_10
    refine ai (aa (vB (decide ((k_3:Int)<(l_1.length:Int)))) (ah ?_))
    refine ak (aA rfl (drop_nil hD_6) (aV ?_))
    exact aS (s_8) rfl rfl (aL rfl)
   | cons x_5 l_4 =>
    obtain ⟨c_,hc_9,hL_10⟩:=bind_some hL_10
    refine ai (aa (vB (decide ((k_3:Int)<(l_1.length:Int)))) (ah ?_))
    refine ak (aB rfl (bv hD_6) (av ?_))
    unfold gY at hc_9
    refine ak (aM (ai (aa (vI (k_3:Int)) (dD MO rfl rfl (bI hD_6) rfl wz (bE CP Ie rfl (.d (.agg (Alert.enc x_5))) rfl wz (dB 0 (.inl rfl) z79 rfl wz (λn_13=>aa (vI (k_3:Int)) (fE 0 il ft 0 CP rfl rfl (Alert.v x_5) rfl wz (ah (ak (ai (aF 0 0 il ft CP Ie rfl rfl (.d (.agg (Alert.enc x_5))) rfl wz ?_))))))))))))
    obtain ⟨r_14,hr_15,hc_9⟩:=bind_some hc_9
    refine aD (yL hr_15) rfl hb94 rfl rfl rfl rfl wz (aa (vI r_14) (ah (ai (aa (vI r_14) (aa (vB (r_14 != 0)) (ah ?_))))))
    rcases aj hc_9 with⟨hc_16,hc_9⟩|⟨hc_16,hc_9⟩
    ·refine aB rfl hc_16 (ai (aa (vI r_14) (aa (vI r_14) (ah ?_))))
     obtain rfl:=ae hc_9
     obtain rfl:=ae hL_10
     obtain rfl:=ae hF
     exact ay (aK [(vI r_14)] ⟨rfl,trivial⟩)
    ·refine aA rfl hc_16 (av (ak ?_))
     obtain ⟨v_17,h_18,hc_9⟩:=bind_some hc_9
     refine aQ [(0,(vL Alert.enc l_1)),(12,(vL Alert.enc l_1)),(13,(vI (l_1.length:Int))),(14,(vI (k_3:Int))),(35,(vB v_17))] [(n_13,some (.cells 9 (Alert.v x_5)))] ?_ ?_
     ·refine bB (aa (vI (k_3:Int)) (aa (vB (decide ((k_3:Int)>0))) ?_))
      rcases aj h_18 with⟨hc_19,h_18⟩|⟨hc_19,h_18⟩
      ·refine aC rfl hc_19 wz (aG (vL Alert.enc l_1) wa rfl (aG (vI (k_3:Int)) wa rfl (aG (vI (w64 ((k_3:Int)-1))) wa rfl ?_)))
       obtain ⟨y_20,hy_21,h_18⟩:=bind_some h_18
       refine dD MO rfl rfl hy_21 rfl wa (bE CP Ie rfl (.d (.agg (Alert.enc y_20))) rfl wa (aF 8 0 (.inr (by kernel_rfl)) (λ_ _ ag=>trivial) CP Ie rfl rfl (.d (.agg (Alert.enc x_5))) rfl wa ?_))
       obtain ⟨r_22,hr_23,h_18⟩:=bind_some h_18
       refine aD (Bc hr_23) rfl hb95 rfl rfl rfl rfl wa (aG (vB (decide (r_22>=0))) wa rfl (aa (vB (decide (r_22>=0))) (ah ?_)))
       obtain rfl:=ae h_18
       exact cu
      ·refine aC rfl hc_19 wz (af (af (af (af (af (af (af (af (aa (vB false) (ah ?_))))))))))
       obtain rfl:=ae h_18
       exact cu
     ·rintro ⟨⟩ _ sl_ H_ hp_ hq_
      refine aO _ hp_ hq_ ?_
      rcases aj hc_9 with⟨hc_24,hc_9⟩|⟨hc_24,hc_9⟩
      ·refine aB rfl hc_24 (ai (aa (vI 7) (ah ?_)))
       obtain rfl:=ae hc_9
       obtain rfl:=ae hL_10
       obtain rfl:=ae hF
       exact ay (aK [(vI 7)] ⟨rfl,trivial⟩)
      ·refine aA rfl hc_24 (av (au (dS (bC hD_6 hn_7) wz rfl (aa (vI ((k_3+1:Nat):Int)) (ah ?_)))))
       obtain rfl:=ae hc_9
       exact aU (k_3+1,l_4,()) ⟨hL_10,aX hD_6⟩ (ls_ _) rfl (aL rfl)
  ·rintro s_8 ho_ sl_ H_ hp_ hq_
   subst ho_
   refine aO _ hp_ hq_ (ai (G9 0 (.inl rfl) wz (λn_25=>tJ (b':=some (bM D.str D.bool ([]:List (ByteArray×Bool)))) 0 rfl rfl (aa (.map n_25) (ah (ak (ai (aa (vL Alert.enc l_1) (bR Pf rfl wz (aa (vI 0) (ah ?_)))))))))))
   obtain ⟨o_34,hj_35,hF⟩:=bind_some hF
   obtain ⟨hn_30,hj_35⟩:=bf hj_35
   refine cz (λ(s_31:(List (ByteArray×Bool)))=>[]) (λ(s_31:(List (ByteArray×Bool)))=>[(n_25,some (bM D.str D.bool s_31))]) (λ(k_26:Nat)=>(λ(s_31:(List (ByteArray×Bool)))=>[(6,(.map n_25)),(38,(vL Alert.enc l_1)),(39,(vI (l_1.length:Int))),(40,(vI (k_26:Int)))])) (λk x s=>jJ k x s) o_34 l_1 ([]:List (ByteArray×Bool)) hj_35 rfl (aL rfl) ?_ ?_
   ·rintro ⟨k_26,l_27,s_31⟩ ⟨hL_33,hD_29⟩
    dsimp only at hL_33 hD_29
    cases l_27 with
    | nil =>
     obtain rfl:=ae hL_33
     refine ai (aa (vB (decide ((k_26:Int)<(l_1.length:Int)))) (ah ?_))
     refine ak (aA rfl (drop_nil hD_29) (aV ?_))
     exact aS (s_31) rfl rfl (aL rfl)
    | cons x_28 l_27 =>
     obtain ⟨c_,hc_32,hL_33⟩:=bind_some hL_33
     refine ai (aa (vB (decide ((k_26:Int)<(l_1.length:Int)))) (ah ?_))
     refine ak (aB rfl (bv hD_29) (av ?_))
     unfold jJ at hc_32
     refine ak (aM (ai (dD MO rfl rfl (bI hD_29) rfl wz (bE CP Ie rfl (.d (.agg (Alert.enc x_28))) rfl wz (dB 0 (.inl rfl) z79 rfl wz (λn_36=>fE 0 il ft 1 CP rfl rfl (Alert.v x_28) rfl wz (ah (ak (ai (aa (.map n_25) (aH BR rfl 0 rfl wz (aF 0 1 il ft sz9 ag9 rfl rfl (vS x_28.Id) rfl wz (xR (eq:=eqS) (kD:=D.str) (vD:=D.bool) (es:=s_31) (k:=x_28.Id) (z:=false) 0 0 il ft (λ_ _=>rfl) mt161 (by kernel_rfl) (by kernel_rfl) rfl rfl rfl (vB ((iM eqS s_31 x_28.Id).getD false)) rfl wz (ah ?_))))))))))))))
     rcases aj hc_32 with⟨hc_37,hc_32⟩|⟨hc_37,hc_32⟩
     ·refine aB rfl hc_37 (ai (aa (vI 6) (ah ?_)))
      obtain rfl:=ae hc_32
      obtain rfl:=ae hL_33
      obtain rfl:=ae hF
      exact ay (aK [(vI 6)] ⟨rfl,trivial⟩)
     ·refine aA rfl hc_37 (av (au (aa (.map n_25) (aH BR rfl 0 rfl wz (aF 0 1 il ft sz9 ag9 rfl rfl (vS x_28.Id) rfl wz (D9 (eq:=eqS) (kD:=D.str) (vD:=D.bool) (es:=s_31) (k:=x_28.Id) (v:=true) 0 0 il ft (λ_ _=>rfl) mt161 (by kernel_rfl) rfl rfl rfl rfl wz (ah (au (dS (bC hD_29 hn_30) wz rfl (aa (vI ((k_26+1:Nat):Int)) (ah ?_)))))))))))
      obtain rfl:=ae hc_32
      exact aU (k_26+1,l_27,(vz eqS s_31 x_28.Id true)) ⟨hL_33,aX hD_29⟩ (ls_ _) rfl (aL rfl)
   ·rintro s_31 ho_ sl_ H_ hp_ hq_
    subst ho_
    refine aO _ hp_ hq_ (ai (aa (vI 0) (ah ?_)))
    obtain rfl:=ae hF
    exact ay (aK [(vI 0)] ⟨rfl,trivial⟩)
theorem yK {l_1:(List Post)} {r:Int} (hF:jX l_1=some r) :
  FnM Tryz.prog 75 [(vL Post.enc l_1)] [] (vI r) []:=by
 refine FnM.of_wH ⟨Tryz.prog,44,[],[]⟩ rfl Tryz.func75 rfl rfl (lb_ rfl) (by kernel_rfl) ?_
 unfold jX at hF
 refine ai (aa (vI 0) (ah (ak (ai (aa (vL Post.enc l_1) (bR un109 rfl wz (aa (vB (decide ((l_1.length:Int)>500))) (ah ?_))))))))
 rcases aj hF with⟨hc_2,hF⟩|⟨hc_2,hF⟩
 ·refine aB rfl hc_2 (ai (aa (vI 2) (ah ?_)))
  obtain rfl:=ae hF
  exact ay (aK [(vI 2)] ⟨rfl,trivial⟩)
 ·refine aA rfl hc_2 (av (ak (ai (aa (vL Post.enc l_1) (bR un109 rfl wz (aa (vI 0) (ah ?_)))))))
  obtain ⟨o_11,hj_12,hF⟩:=bind_some hF
  obtain ⟨hn_7,hj_12⟩:=bf hj_12
  refine cz (λ(s_8:Unit)=>[]) (λ(s_8:Unit)=>[]) (λ(k_3:Nat)=>(λ(s_8:Unit)=>[(0,(vL Post.enc l_1)),(8,(vL Post.enc l_1)),(9,(vI (l_1.length:Int))),(10,(vI (k_3:Int)))])) (λk x s=>iO l_1 k x s) o_11 l_1 () hj_12 rfl (aL rfl) ?_ ?_
  ·rintro ⟨k_3,l_4,s_8⟩ ⟨hL_10,hD_6⟩
   dsimp only at hL_10 hD_6
   cases l_4 with
   | nil =>
    obtain rfl:=ae hL_10
    refine ai (aa (vB (decide ((k_3:Int)<(l_1.length:Int)))) (ah ?_))
    refine ak (aA rfl (drop_nil hD_6) (aV ?_))
    exact aS (s_8) rfl rfl (aL rfl)
   | cons x_5 l_4 =>
    obtain ⟨c_,hc_9,hL_10⟩:=bind_some hL_10
    refine ai (aa (vB (decide ((k_3:Int)<(l_1.length:Int)))) (ah ?_))
    refine ak (aB rfl (bv hD_6) (av ?_))
    unfold iO at hc_9
    refine ak (aM (ai (aa (vI (k_3:Int)) (dD OV rfl rfl (bI hD_6) rfl wz (bE sz82 ag82 rfl (.d (.agg (Post.enc x_5))) rfl wz (dB 0 (.inl rfl) z82 rfl wz (λn_13=>aa (vI (k_3:Int)) (fE 0 il ft 0 sz82 rfl rfl (Post.v x_5) rfl wz (ah (aM (ai (aH LJ rfl 0 rfl wz (aF 0 0 il ft sz9 ag9 rfl rfl (vS x_5.Player) rfl wz ?_)))))))))))))
    obtain ⟨r_14,hr_15,hc_9⟩:=bind_some hc_9
    refine aD (fD hr_15) rfl CF rfl rfl rfl rfl wz (aa (vB (!r_14)) (aa (vB (!r_14)) (ah ?_)))
    rcases aj hc_9 with⟨hc_16,hc_9⟩|⟨hc_16,hc_9⟩
    ·refine aB rfl hc_16 (ai (aa (vI 5) (ah ?_)))
     obtain rfl:=ae hc_9
     obtain rfl:=ae hL_10
     obtain rfl:=ae hF
     exact ay (aK [(vI 5)] ⟨rfl,trivial⟩)
    ·refine aA rfl hc_16 (ak ?_)
     obtain ⟨v_17,h_18,hc_9⟩:=bind_some hc_9
     refine aQ [(0,(vL Post.enc l_1)),(3,(vI (k_3:Int))),(4,(.ref n_13 0 0)),(8,(vL Post.enc l_1)),(9,(vI (l_1.length:Int))),(10,(vI (k_3:Int))),(20,(vB v_17))] [(n_13,some (.cells 3 (Post.v x_5)))] ?_ ?_
     ·refine au (aH K4 rfl 1 rfl wz (aF 0 0 il ft sz3 ag3 rfl rfl (vI x_5.X) rfl wz ?_))
      obtain ⟨r_19,hr_20,h_18⟩:=bind_some h_18
      refine aD (bn hr_20) rfl qM rfl rfl rfl rfl wz ?_
      rcases aj h_18 with⟨hc_21,h_18⟩|⟨hc_21,h_18⟩
      ·refine aC rfl hc_21 wz (af (af (af (aa (vB true) (aa (vB true) (ah ?_))))))
       obtain rfl:=ae h_18
       exact cu
      ·refine aC rfl hc_21 wz (aH Lg rfl 2 rfl wa (aF 0 0 il ft sz3 ag3 rfl rfl (vI x_5.Y) rfl wa ?_))
       obtain ⟨r_22,hr_23,h_18⟩:=bind_some h_18
       refine aD (bn hr_23) rfl qM rfl rfl rfl rfl wa (aa (vB r_22) (aa (vB r_22) (ah ?_)))
       obtain rfl:=ae h_18
       exact cu
     ·rintro ⟨⟩ _ sl_ H_ hp_ hq_
      refine aO _ hp_ hq_ ?_
      rcases aj hc_9 with⟨hc_24,hc_9⟩|⟨hc_24,hc_9⟩
      ·refine aB rfl hc_24 (ai (aa (vI 1) (ah ?_)))
       obtain rfl:=ae hc_9
       obtain rfl:=ae hL_10
       obtain rfl:=ae hF
       exact ay (aK [(vI 1)] ⟨rfl,trivial⟩)
      ·refine aA rfl hc_24 (ak ?_)
       obtain ⟨v_25,h_26,hc_9⟩:=bind_some hc_9
       refine aQ [(0,(vL Post.enc l_1)),(8,(vL Post.enc l_1)),(9,(vI (l_1.length:Int))),(10,(vI (k_3:Int))),(29,(vB v_25))] [(n_13,some (.cells 3 (Post.v x_5)))] ?_ ?_
       ·refine bB (aa (vI (k_3:Int)) (aa (vB (decide ((k_3:Int)>0))) ?_))
        rcases aj h_26 with⟨hc_27,h_26⟩|⟨hc_27,h_26⟩
        ·refine aC rfl hc_27 wz (aH LJ rfl 0 rfl wa (aF 4 0 (.inr (by kernel_rfl)) (λ_ _ ag=>trivial) sz9 ag9 rfl rfl (vS x_5.Player) rfl wa (aG (vL Post.enc l_1) wa rfl (aG (vI (k_3:Int)) wa rfl (aG (vI (w64 ((k_3:Int)-1))) wa rfl ?_)))))
         obtain ⟨y_28,hy_29,h_26⟩:=bind_some h_26
         refine dD OV rfl rfl hy_29 rfl wa (oz LJ rfl [.str y_28.Player,.int .i64 y_28.X,.int .i64 y_28.Y] rfl rfl wa (bE sz9 ag9 rfl (vS y_28.Player) rfl wa (aG (vB (sLe x_5.Player y_28.Player)) wa rfl (aa (vB (sLe x_5.Player y_28.Player)) (aa (vB (sLe x_5.Player y_28.Player)) (ah ?_))))))
         obtain rfl:=ae h_26
         exact cu
        ·refine aC rfl hc_27 wz (af (af (af (af (af (af (af (af (af (aa (vB false) (aa (vB false) (ah ?_))))))))))))
         obtain rfl:=ae h_26
         exact cu
       ·rintro ⟨⟩ _ sl_ H_ hp_ hq_
        refine aO _ hp_ hq_ ?_
        rcases aj hc_9 with⟨hc_30,hc_9⟩|⟨hc_30,hc_9⟩
        ·refine aB rfl hc_30 (ai (aa (vI 7) (ah ?_)))
         obtain rfl:=ae hc_9
         obtain rfl:=ae hL_10
         obtain rfl:=ae hF
         exact ay (aK [(vI 7)] ⟨rfl,trivial⟩)
        ·refine aA rfl hc_30 (av (au (dS (bC hD_6 hn_7) wz rfl (aa (vI ((k_3+1:Nat):Int)) (ah ?_)))))
         obtain rfl:=ae hc_9
         exact aU (k_3+1,l_4,()) ⟨hL_10,aX hD_6⟩ (ls_ _) rfl (aL rfl)
  ·rintro s_8 ho_ sl_ H_ hp_ hq_
   subst ho_
   refine aO _ hp_ hq_ (ai (aa (vI 0) (ah ?_)))
   obtain rfl:=ae hF
   exact ay (aK [(vI 0)] ⟨rfl,trivial⟩)
theorem zK {l_1:(List Alert)} {posts_2:(List Post)} {r:Int} (hF:lu l_1 posts_2=some r) :
  FnM Tryz.prog 49 [(vL Alert.enc l_1),(vL Post.enc posts_2)] [] (vI r) []:=by
 refine FnM.of_wH ⟨Tryz.prog,13,[],[]⟩ rfl Tryz.func49 rfl rfl (lb_ rfl) (by kernel_rfl) ?_
 unfold lu at hF
 refine ai (aa (vI 0) (ah (ak (ai (aa (vL Alert.enc l_1) ?_)))))
 obtain ⟨r_3,hr_4,hF⟩:=bind_some hF
 refine aD (xK hr_4) rfl hb74 rfl rfl rfl rfl wz (aa (vI r_3) (ah (ai (aa (vI r_3) (aa (vB (r_3 != 0)) (ah ?_))))))
 rcases aj hF with⟨hc_5,hF⟩|⟨hc_5,hF⟩
 ·refine aB rfl hc_5 (ai (aa (vI r_3) (aa (vI r_3) (ah ?_))))
  obtain rfl:=ae hF
  exact ay (aK [(vI r_3)] ⟨rfl,trivial⟩)
 ·refine aA rfl hc_5 (av (ai (aa (vL Post.enc posts_2) ?_)))
  obtain ⟨r_6,hr_7,hF⟩:=bind_some hF
  refine aD (yK hr_7) rfl hb75 rfl rfl rfl rfl wz (aa (vI r_6) (ah ?_))
  obtain rfl:=ae hF
  exact ay (aK [(vI r_6)] ⟨rfl,trivial⟩)
theorem zG {r_1:Rect} {p_2:Post} {r:Bool} (hF:rf r_1 p_2=some r) :
  FnM Tryz.prog 77 [(.d (.agg (Rect.enc r_1))),(.ref (ax 0) 0 0)] [(.cells 3 (Post.v p_2))] (vB r) [some (.cells 3 (Post.v p_2))]:=by
 refine FnM.of_wH ⟨Tryz.prog,36,[],[]⟩ rfl Tryz.func77 rfl rfl (lb_ rfl) (by kernel_rfl) ?_
 unfold rf at hF
 refine ai (ig 0 (.inl rfl) (Rect.v r_1) rfl rfl wz (λn_3=>aa (vB false) (ah (ak ?_))))
 obtain ⟨v_4,h_5,hF⟩:=bind_some hF
 refine aQ [(3,(vB v_4))] [((ax 0),some (.cells 3 (Post.v p_2))),(n_3,some (.cells 4 (Rect.v r_1)))] ?_ ?_
 ·refine au (aH BN rfl 0 rfl wz (aF 0 1 il ft sz3 ag3 rfl rfl (vI r_1.X) rfl wz (aH K4 rfl 1 rfl wz (aF 0 0 il ft sz3 ag3 rfl rfl (vI p_2.X) rfl wz (aa (vB (decide (r_1.X<=p_2.X))) ?_)))))
  rcases aj h_5 with⟨hc_6,h_5⟩|⟨hc_6,h_5⟩
  ·refine aC rfl hc_6 wz (aH K4 rfl 1 rfl wa (aF 0 0 il ft sz3 ag3 rfl rfl (vI p_2.X) rfl wa (aH BN rfl 0 rfl wa (aF 0 1 il ft sz3 ag3 rfl rfl (vI r_1.X) rfl wa (aH Ih rfl 2 rfl wa (aF 0 1 il ft sz3 ag3 rfl rfl (vI r_1.W) rfl wa (aG (vI (w64 (r_1.X+r_1.W))) wa rfl (aG (vB (decide (p_2.X<(w64 (r_1.X+r_1.W))))) wa rfl (aa (vB (decide (p_2.X<(w64 (r_1.X+r_1.W))))) ?_)))))))))
   rcases aj h_5 with⟨hc_7,h_5⟩|⟨hc_7,h_5⟩
   ·refine aC rfl hc_7 wz (aH xJ rfl 1 rfl wa (aF 0 1 il ft sz3 ag3 rfl rfl (vI r_1.Y) rfl wa (aH Lg rfl 2 rfl wa (aF 0 0 il ft sz3 ag3 rfl rfl (vI p_2.Y) rfl wa (aG (vB (decide (r_1.Y<=p_2.Y))) wa rfl (aa (vB (decide (r_1.Y<=p_2.Y))) ?_))))))
    rcases aj h_5 with⟨hc_8,h_5⟩|⟨hc_8,h_5⟩
    ·refine aC rfl hc_8 wz (aH Lg rfl 2 rfl wa (aF 0 0 il ft sz3 ag3 rfl rfl (vI p_2.Y) rfl wa (aH xJ rfl 1 rfl wa (aF 0 1 il ft sz3 ag3 rfl rfl (vI r_1.Y) rfl wa (aH Fs rfl 3 rfl wa (aF 0 1 il ft sz3 ag3 rfl rfl (vI r_1.H) rfl wa (aG (vI (w64 (r_1.Y+r_1.H))) wa rfl (aG (vB (decide (p_2.Y<(w64 (r_1.Y+r_1.H))))) wa rfl (aa (vB (decide (p_2.Y<(w64 (r_1.Y+r_1.H))))) (aa (vB (decide (p_2.Y<(w64 (r_1.Y+r_1.H))))) (ah ?_)))))))))))
     obtain rfl:=ae h_5
     exact cu
    ·refine aC rfl hc_8 wz (af (af (af (af (af (af (af (af (aa (vB false) (aa (vB false) (ah ?_)))))))))))
     obtain rfl:=ae h_5
     exact cu
   ·refine aC rfl hc_7 wz (af (af (af (af (af (aa (vB false) (aa (vB false) (af (af (af (af (af (af (af (af (aa (vB false) (aa (vB false) (ah ?_))))))))))))))))))
    obtain rfl:=ae h_5
    exact cu
  ·refine aC rfl hc_6 wz (af (af (af (af (af (af (af (af (aa (vB false) (aa (vB false) (af (af (af (af (af (aa (vB false) (aa (vB false) (af (af (af (af (af (af ?_)))))))))))))))))))))))
   refine af (af (aa (vB false) (aa (vB false) (ah ?_))))
   obtain rfl:=ae h_5
   exact cu
 ·rintro ⟨⟩ _ sl_ H_ hp_ hq_
  refine aO _ hp_ hq_ ?_
  obtain rfl:=ae hF
  exact ay (Fz (.inr rfl) [(vB v_4)] _ [0] [ax 0] ⟨rfl,trivial⟩ (.cons (lN rfl rfl) (.nil)) (by kernel_rfl) ⟨(by kernel_rfl),trivial⟩ (by decide) (by kernel_rfl))
theorem mQ {s_1:(List Rect)} {f_2:Rect->Option Bool} {r:Int} {gid:FuncId} {caps:List V} {Sin:List Box} (hfn:∀x0 r,f_2 x0=some r->FnM Tryz.prog gid ([(.d (.agg (Rect.enc x0)))]++caps) Sin (vB r) (Sin.map some)) (hbF:aI Tryz.prog gid=true) (hcapF:caps.flatMap frz=[]/\caps.map co0=caps) (hokF:okL Sin.length caps=true) (hsF:∀b∈Sin,b.ok Sin.length=true) (hmF:∀b∈Sin,b.mut=true) (hF:fH s_1 f_2=some r) :
  FnM Tryz.prog 96 [(vL Rect.enc s_1),(.fn gid caps)] Sin (vI r) (Sin.map some):=by
 refine FnM.of_wH ⟨Tryz.prog,19,[],[]⟩ rfl Tryz.func96 rfl rfl (lb_ rfl) (by kernel_rfl) ?_
 unfold fH at hF
 refine ai (aa (vI 0) (ah (ak (ai (aa (vL Rect.enc s_1) (bR Be rfl wz (aa (vI 0) (ah ?_))))))))
 obtain ⟨o_11,hj_12,hF⟩:=bind_some hF
 obtain ⟨hn_7,hj_12⟩:=bf hj_12
 refine cz (λ(s_8:Unit)=>[]) (λ(s_8:Unit)=>(lY 0 Sin)) (λ(k_3:Nat)=>(λ(s_8:Unit)=>[(0,(vL Rect.enc s_1)),(1,(.fn gid caps)),(7,(vI (s_1.length:Int))),(8,(vI (k_3:Int)))])) (λk x s=>eO f_2 k x s) o_11 s_1 () hj_12 rfl (fw _) ?_ ?_
 ·rintro ⟨k_3,l_4,s_8⟩ ⟨hL_10,hD_6⟩
  dsimp only at hL_10 hD_6
  cases l_4 with
  | nil =>
   obtain rfl:=ae hL_10
   refine ai (aa (vB (decide ((k_3:Int)<(s_1.length:Int)))) (ah ?_))
   refine ak (aA rfl (drop_nil hD_6) (aV ?_))
   exact aS (s_8) rfl rfl (fw _)
  | cons x_5 l_4 =>
   obtain ⟨c_,hc_9,hL_10⟩:=bind_some hL_10
   refine ai (aa (vB (decide ((k_3:Int)<(s_1.length:Int)))) (ah ?_))
   refine ak (aB rfl (bv hD_6) (av ?_))
   unfold eO at hc_9
   refine ak (aM (ai (aa (vI (k_3:Int)) (aa (vI (k_3:Int)) (ah (ai (aa (.fn gid caps) (aa (vL Rect.enc s_1) (aa (vI (k_3:Int)) (dD HZ rfl rfl (bI hD_6) rfl wz (bE xI Ja rfl (.d (.agg (Rect.enc x_5))) rfl wz ?_)))))))))))
   obtain ⟨r_13,hr_14,hc_9⟩:=bind_some hc_9
   refine p8 (hfn _ _ hr_14) rfl hbF rfl rfl hcapF hokF hsF hmF rfl wz rfl (ah ?_)
   rcases aj hc_9 with⟨hc_15,hc_9⟩|⟨hc_15,hc_9⟩
   ·refine aB rfl hc_15 (ai (aa (vI (k_3:Int)) (aa (vI (k_3:Int)) (ah ?_))))
    obtain rfl:=ae hc_9
    obtain rfl:=ae hL_10
    obtain rfl:=ae hF
    exact ay (ES hsF (.inr rfl) [(vI (k_3:Int))] ⟨rfl,trivial⟩ rfl rfl rfl)
   ·refine aA rfl hc_15 (av (au (dS (bC hD_6 hn_7) wz rfl (aa (vI ((k_3+1:Nat):Int)) (ah ?_)))))
    obtain rfl:=ae hc_9
    exact aU (k_3+1,l_4,()) ⟨hL_10,aX hD_6⟩ (ls_ _) rfl (fw _)
 ·rintro s_8 ho_ sl_ H_ hp_ hq_
  subst ho_
  refine aO _ hp_ hq_ (ai (aa (vI (-1)) (ah ?_)))
  obtain rfl:=ae hF
  exact ay (ES hsF (.inr rfl) [(vI (-1))] ⟨rfl,trivial⟩ rfl rfl rfl)
theorem lG {s_1:(List Rect)} {f_2:Rect->Option Bool} {r:Bool} {gid:FuncId} {caps:List V} {Sin:List Box} (hfn:∀x0 r,f_2 x0=some r->FnM Tryz.prog gid ([(.d (.agg (Rect.enc x0)))]++caps) Sin (vB r) (Sin.map some)) (hbF:aI Tryz.prog gid=true) (hcapF:caps.flatMap frz=[]/\caps.map co0=caps) (hokF:okL Sin.length caps=true) (hsF:∀b∈Sin,b.ok Sin.length=true) (hmF:∀b∈Sin,b.mut=true) (hF:eQ s_1 f_2=some r) :
  FnM Tryz.prog 76 [(vL Rect.enc s_1),(.fn gid caps)] Sin (vB r) (Sin.map some):=by
 refine FnM.of_wH ⟨Tryz.prog,9,[],[]⟩ rfl Tryz.func76 rfl rfl (lb_ rfl) (by kernel_rfl) ?_
 unfold eQ at hF
 refine ai (aa (vB false) (ah (ai (aa (vL Rect.enc s_1) (aa (.fn gid caps) ?_)))))
 obtain ⟨r_3,hr_4,hF⟩:=bind_some hF
 refine p8 (mQ (gid:=gid) (caps:=caps) (Sin:=Sin) hfn hbF hcapF hokF hsF hmF hr_4) rfl hb96 rfl rfl ⟨rfl,rfl⟩ (by simp [okL,okV,hokF]) hsF hmF rfl wz rfl (aa (vB (decide (r_3>=0))) (aa (vB (decide (r_3>=0))) (ah ?_)))
 obtain rfl:=ae hF
 exact ay (ES hsF (.inr rfl) [(vB (decide (r_3>=0)))] ⟨rfl,trivial⟩ rfl rfl rfl)
theorem BI {a_1:Alert} {p_2:Post} {r:Bool} (hF:pY a_1 p_2=some r) :
  FnM Tryz.prog 50 [(.d (.agg (Alert.enc a_1))),(.d (.agg (Post.enc p_2)))] [] (vB r) []:=by
 refine FnM.of_wH ⟨Tryz.prog,9,[],[]⟩ rfl Tryz.func50 rfl rfl (lb_ rfl) (by kernel_rfl) ?_
 unfold pY at hF
 refine ai (ig 0 (.inl rfl) (Alert.v a_1) rfl rfl wz (λn_3=>ig 0 (.inl rfl) (Post.v p_2) rfl rfl wz (λn_4=>aa (vB false) (ah (ai (aH GL rfl 7 rfl wz (aF 0 0 il ft NG MV rfl rfl (vL Rect.enc a_1.Areas) rfl wz (aa (.fn 77 [(.ref n_4 0 0)]) ?_))))))))
 obtain ⟨r_5,hr_6,hF⟩:=bind_some hF
 refine gU 0 [1] il ft (lG (gid:=77) (caps:=[.ref (ax 0) 0 0]) (Sin:=[(.cells 3 (Post.v p_2))]) (λ_ _ h_=>zG h_) hb77 ⟨rfl,rfl⟩ (by kernel_rfl) (Du (by kernel_rfl)) (A8 (by kernel_rfl)) hr_6) rfl hb76 rfl (by kernel_rfl) (by kernel_rfl) (by kernel_rfl) (by kernel_rfl) (by kernel_rfl) (by kernel_rfl) (by kernel_rfl) (by decide) (by kernel_rfl) wz (vB r_5) (by kernel_rfl) ([(n_3,some (.cells 9 (Alert.v a_1))),(n_4,some (.cells 3 (Post.v p_2)))]:Hp) (by kernel_rfl) (aa (vB r_5) (ah ?_))
 obtain rfl:=ae hF
 exact ay (aK [(vB r_5)] ⟨rfl,trivial⟩)
theorem Bg {a_1:Alert} {p_2:Post} {r:Bool×Int} (hF:nE a_1 p_2=some r) :
  FnM Tryz.prog 26 [(.d (.agg (Alert.enc a_1))),(.d (.agg (Post.enc p_2)))] [] (.tup [(vB r.1),(vI r.2)]) []:=by
 refine FnM.of_wH ⟨Tryz.prog,18,[],[]⟩ rfl Tryz.func26 rfl rfl (lb_ rfl) (by kernel_rfl) ?_
 unfold nE at hF
 refine ai (ig 0 (.inl rfl) (Alert.v a_1) rfl rfl wz (λn_3=>ig 0 (.inl rfl) (Post.v p_2) rfl rfl wz (λn_4=>aa (vB false) (aa (vI 0) (ah (ak (ai (aF 0 0 il ft CP Ie rfl rfl (.d (.agg (Alert.enc a_1))) rfl wz (gm (([a_1]:List Alert).map Alert.enc) MO ez108 rfl rfl rfl rfl rfl wz (aF 0 1 il ft sz82 ag82 rfl rfl (.d (.agg (Post.enc p_2))) rfl wz (gm (([p_2]:List Post).map Post.enc) OV ez109 rfl rfl rfl rfl rfl wz ?_)))))))))))
 obtain ⟨r_5,hr_6,hF⟩:=bind_some hF
 refine aD (zK hr_6) rfl hb49 rfl rfl rfl rfl wz (aa (vI r_5) (ah (ai (aa (vI r_5) (aa (vB (r_5 != 0)) (ah ?_))))))
 rcases aj hF with⟨hc_7,hF⟩|⟨hc_7,hF⟩
 ·refine aB rfl hc_7 (ai (aa (vI r_5) (aa (vB false) (aa (vI r_5) (ah ?_)))))
  obtain rfl:=ae hF
  exact ay (aK [(vB false),(vI r_5)] ⟨rfl,⟨rfl,trivial⟩⟩)
 ·refine aA rfl hc_7 (av (ai (aF 0 0 il ft CP Ie rfl rfl (.d (.agg (Alert.enc a_1))) rfl wz (aF 0 1 il ft sz82 ag82 rfl rfl (.d (.agg (Post.enc p_2))) rfl wz ?_))))
  obtain ⟨r_8,hr_9,hF⟩:=bind_some hF
  refine aD (BI hr_9) rfl hb50 rfl rfl rfl rfl wz (aa (vB r_8) (aa (vI 0) (ah ?_)))
  obtain rfl:=ae hF
  exact ay (aK [(vB r_8),(vI 0)] ⟨rfl,⟨rfl,trivial⟩⟩)
theorem GX {l_1:(List Int)} {r:Int} (hF:yn l_1=some r) :
  FnM Tryz.prog 27 [(vL eI l_1)] [] (vI r) []:=by
 refine FnM.of_wH ⟨Tryz.prog,15,[],[]⟩ rfl Tryz.func27 rfl rfl (lb_ rfl) (by kernel_rfl) ?_
 unfold yn at hF
 refine ai (aa (vI 0) (ah (ak (ai (aa (vL eI l_1) (bR un111 rfl wz (aa (vI 0) (ah ?_))))))))
 obtain ⟨o_10,hj_11,hF⟩:=bind_some hF
 obtain ⟨hn_6,hj_11⟩:=bf hj_11
 refine cz (λ(s_7:Unit)=>[]) (λ(s_7:Unit)=>[]) (λ(k_2:Nat)=>(λ(s_7:Unit)=>[(5,(vL eI l_1)),(6,(vI (l_1.length:Int))),(7,(vI (k_2:Int)))])) (λk x s=>wP k x s) o_10 l_1 () hj_11 rfl (aL rfl) ?_ ?_
 ·rintro ⟨k_2,l_3,s_7⟩ ⟨hL_9,hD_5⟩
  dsimp only at hL_9 hD_5
  cases l_3 with
  | nil =>
   obtain rfl:=ae hL_9
   refine ai (aa (vB (decide ((k_2:Int)<(l_1.length:Int)))) (ah ?_))
   refine ak (aA rfl (drop_nil hD_5) (aV ?_))
   exact aS (s_7) rfl rfl (aL rfl)
  | cons x_4 l_3 =>
   obtain ⟨c_,hc_8,hL_9⟩:=bind_some hL_9
   refine ai (aa (vB (decide ((k_2:Int)<(l_1.length:Int)))) (ah ?_))
   refine ak (aB rfl (bv hD_5) (av ?_))
   unfold wP at hc_8
   refine ak (aM (ai (dD es111 rfl rfl (bI hD_5) rfl wz (bE sz30 ag30 rfl (vI x_4) rfl wz (aa (vI x_4) (ah (ai (aa (vI x_4) (aa (vB (x_4 != 0)) (ah ?_))))))))))
   rcases aj hc_8 with⟨hc_12,hc_8⟩|⟨hc_12,hc_8⟩
   ·refine aB rfl hc_12 (ai (aa (vI x_4) (aa (vI x_4) (ah ?_))))
    obtain rfl:=ae hc_8
    obtain rfl:=ae hL_9
    obtain rfl:=ae hF
    exact ay (aK [(vI x_4)] ⟨rfl,trivial⟩)
   ·refine aA rfl hc_12 (av (au (dS (bC hD_5 hn_6) wz rfl (aa (vI ((k_2+1:Nat):Int)) (ah ?_)))))
    obtain rfl:=ae hc_8
    exact aU (k_2+1,l_3,()) ⟨hL_9,aX hD_5⟩ (ls_ _) rfl (aL rfl)
 ·rintro s_7 ho_ sl_ H_ hp_ hq_
  subst ho_
  refine aO _ hp_ hq_ (ai (aa (vI 0) (ah ?_)))
  obtain rfl:=ae hF
  exact ay (aK [(vI 0)] ⟨rfl,trivial⟩)
theorem y8 {r:Bool} (hF:ol  = some r) :
  FnM Tryz.prog 9 [] [] (vB r) []:=by
 refine FnM.of_wH ⟨Tryz.prog,75,[],[]⟩ rfl Tryz.func9 rfl rfl (lb_ rfl) (by kernel_rfl) ?_
 unfold ol at hF
 refine ai (aa (vB false) (ah (ai (aG (.d (.agg (Rect.enc (⟨0,0,2,2⟩:Rect)))) wz (by kernel_rfl) (aG (.d (.agg (Rect.enc (⟨1,1,2,2⟩:Rect)))) wz (by kernel_rfl) (gm (([(⟨0,0,2,2⟩:Rect),(⟨1,1,2,2⟩:Rect)]:List Rect).map Rect.enc) HZ ez67 rfl rfl rfl rfl rfl wz ?_))))))
 obtain ⟨r_1,hr_2,hF⟩:=bind_some hF
 refine aD (DT hr_2) rfl hb22 rfl rfl rfl rfl wz (aa (.tup [(vI r_1.1),(vI r_1.2)]) (aa (vI r_1.1) (aa (vI r_1.2) (aa (vI r_1.1) (aa (vI r_1.2) (ah (ai (aG (.agg [(vS (⟨#[97]⟩:ByteArray)),(vS (⟨#[98]⟩:ByteArray)),(vI 0),(vI 0),(vI 0),(vI 1),(vI 127),.nil,(vI 1),(vI 2),(vI 0),.nil,(vB false)]) wz (by kernel_rfl) (aG (.d (.agg (Window.enc (⟨0,86400000⟩:Window)))) wz (by kernel_rfl) ?_)))))))))
 obtain ⟨r_3,hr_4,hF⟩:=bind_some hF
 refine aD (AA hr_4) rfl hb23 rfl rfl rfl rfl wz (aa (.tup [(vL Window.enc r_3.1),(vI r_3.2)]) (aa (vL Window.enc r_3.1) (aa (vI r_3.2) (aa (vL Window.enc r_3.1) (aa (vI r_3.2) (ah (ai (aG (.d (.agg (Window.enc (⟨0,100⟩:Window)))) wz (by kernel_rfl) (aG (.agg [(vS (⟨#[97]⟩:ByteArray)),(vS (⟨#[]⟩:ByteArray)),(vI 0),(vI 100),.nil,(vI 10),(vI 0),(vI 0)]) wz (by kernel_rfl) ?_)))))))))
 obtain ⟨r_5,hr_6,hF⟩:=bind_some hF
 refine aD (Dq hr_6) rfl hb24 rfl rfl rfl rfl wz (aa (.tup [(vI r_5.1),(vI r_5.2)]) (aa (vI r_5.1) (aa (vI r_5.2) (aa (vI r_5.1) (aa (vI r_5.2) (ah (ai (aG (.d (.agg (Beat.enc (⟨(⟨#[112]⟩:ByteArray),0,100⟩:Beat)))) wz (by kernel_rfl) (aG (.d (.agg (Beat.enc (⟨(⟨#[112]⟩:ByteArray),1000,1300⟩:Beat)))) wz (by kernel_rfl) (gm (([(⟨(⟨#[112]⟩:ByteArray),0,100⟩:Beat),(⟨(⟨#[112]⟩:ByteArray),1000,1300⟩:Beat)]:List Beat).map Beat.enc) ND ez77 rfl rfl rfl rfl rfl wz ?_))))))))))
 obtain ⟨r_7,hr_8,hF⟩:=bind_some hF
 refine aD (D8 hr_8) rfl hb25 rfl rfl rfl rfl wz (aa (.tup [(vI r_7.1),(vI r_7.2)]) (aa (vI r_7.1) (aa (vI r_7.2) (aa (vI r_7.1) (aa (vI r_7.2) (ah (aO (H0:=([]:Hp)) ([(1,(vI r_1.1)),(2,(vI r_1.2)),(3,(vL Window.enc r_3.1)),(4,(vI r_3.2)),(5,(vI r_5.1)),(6,(vI r_5.2)),(7,(vI r_7.1)),(8,(vI r_7.2))]:SL_) (by kernel_rfl) (vW (by kernel_rfl)) (ai (aG (.d (.agg (Rect.enc (⟨0,0,2,2⟩:Rect)))) wz (by kernel_rfl) (gm (([(⟨0,0,2,2⟩:Rect)]:List Rect).map Rect.enc) HZ ez67 rfl rfl rfl rfl rfl wz (aG (.agg [(vS (⟨#[97]⟩:ByteArray)),(vS (⟨#[115]⟩:ByteArray)),(vI 1),.nil,(vI 0),(vI 5),(vI 1),(vL Rect.enc ([(⟨0,0,2,2⟩:Rect)]:List Rect)),(vS (⟨#[120]⟩:ByteArray))]) wz (by kernel_rfl) (dB 0 (.inl rfl) z79 rfl wz (λn_9=>fE 0 il ft 0 CP rfl rfl [(vS (⟨#[97]⟩:ByteArray)),(vS (⟨#[115]⟩:ByteArray)),(vI 1),.nil,(vI 0),(vI 5),(vI 1),(vL Rect.enc ([(⟨0,0,2,2⟩:Rect)]:List Rect)),(vS (⟨#[120]⟩:ByteArray))] rfl wz (ah (ai (aF 0 0 il ft CP Ie rfl rfl (.agg [(vS (⟨#[97]⟩:ByteArray)),(vS (⟨#[115]⟩:ByteArray)),(vI 1),.nil,(vI 0),(vI 5),(vI 1),(vL Rect.enc ([(⟨0,0,2,2⟩:Rect)]:List Rect)),(vS (⟨#[120]⟩:ByteArray))]) rfl wz (aG (.d (.agg (Post.enc (⟨(⟨#[112]⟩:ByteArray),1,1⟩:Post)))) wz (by kernel_rfl) ?_)))))))))))))))))
 obtain ⟨r_10,hr_11,hF⟩:=bind_some hF
 refine aD (Bg hr_11) rfl hb26 rfl rfl rfl rfl wz (aa (.tup [(vB r_10.1),(vI r_10.2)]) (aa (vB r_10.1) (aa (vI r_10.2) (aa (vB r_10.1) (aa (vI r_10.2) (ah (ak ?_)))))))
 obtain ⟨v_12,h_13,hF⟩:=bind_some hF
 refine aQ [(0,(vB v_12))] [(n_9,some (.cells 9 [(vS (⟨#[97]⟩:ByteArray)),(vS (⟨#[115]⟩:ByteArray)),(vI 1),.nil,(vI 0),(vI 5),(vI 1),(vL Rect.enc ([(⟨0,0,2,2⟩:Rect)]:List Rect)),(vS (⟨#[120]⟩:ByteArray))]))] ?_ ?_
 ·refine au (aa (vI r_1.2) (aa (vI r_3.2) (aa (vI r_5.2) (aa (vI r_7.2) (aa (vI r_10.2) (gm (([r_1.2,r_3.2,r_5.2,r_7.2,r_10.2]:List Int).map eI) es111 ez111 rfl rfl rfl rfl rfl wz ?_))))))
  obtain ⟨r_14,hr_15,h_13⟩:=bind_some h_13
  refine aD (GX hr_15) rfl hb27 rfl rfl rfl rfl wz (aa (vB (r_14==0)) ?_)
  rcases aj h_13 with⟨hc_16,h_13⟩|⟨hc_16,h_13⟩
  ·refine aC rfl hc_16 wz (aG (vI r_1.1) wa rfl (aG (vB (r_1.1==7)) wa rfl (aa (vB (r_1.1==7)) ?_)))
   rcases aj h_13 with⟨hc_17,h_13⟩|⟨hc_17,h_13⟩
   ·refine aC rfl hc_17 wz (aG (vL Window.enc r_3.1) wa rfl (bR un68 rfl wa (aG (vB ((r_3.1.length:Int)==1)) wa rfl (aa (vB ((r_3.1.length:Int)==1)) ?_))))
    rcases aj h_13 with⟨hc_18,h_13⟩|⟨hc_18,h_13⟩
    ·refine aC rfl hc_18 wz (aG (vI r_5.1) wa rfl (aG (vB (r_5.1==5)) wa rfl (aa (vB (r_5.1==5)) ?_)))
     rcases aj h_13 with⟨hc_19,h_13⟩|⟨hc_19,h_13⟩
     ·refine aC rfl hc_19 wz (aG (vI r_7.1) wa rfl (aG (vB (r_7.1==500)) wa rfl (aa (vB (r_7.1==500)) ?_)))
      rcases aj h_13 with⟨hc_20,h_13⟩|⟨hc_20,h_13⟩
      ·refine aC rfl hc_20 wz (aG (vB r_10.1) wa rfl (aa (vB r_10.1) (aa (vB r_10.1) (ah ?_))))
       obtain rfl:=ae h_13
       exact cu
      ·refine aC rfl hc_20 wz (af (aa (vB false) (aa (vB false) (ah ?_))))
       obtain rfl:=ae h_13
       exact cu
     ·refine aC rfl hc_19 wz (af (af (aa (vB false) (aa (vB false) (af (aa (vB false) (aa (vB false) (ah ?_))))))))
      obtain rfl:=ae h_13
      exact cu
    ·refine aC rfl hc_18 wz (af (af (aa (vB false) (aa (vB false) (af (af (aa (vB false) (aa (vB false) (af (aa (vB false) (aa (vB false) (ah ?_))))))))))))
     obtain rfl:=ae h_13
     exact cu
   ·refine aC rfl hc_17 wz (af (af (af (aa (vB false) (aa (vB false) (af (af (aa (vB false) (aa (vB false) (af (af (aa (vB false) (aa (vB false) (af (aa (vB false) (aa (vB false) (ah ?_)))))))))))))))))
    obtain rfl:=ae h_13
    exact cu
  ·refine aC rfl hc_16 wz (af (af (aa (vB false) (aa (vB false) (af (af (af (aa (vB false) (aa (vB false) (af (af (aa (vB false) (aa (vB false) (af (af (aa (vB false) (aa (vB false) (af (aa (vB false) (aa (vB false) (ah ?_)))))))))))))))))))))
   obtain rfl:=ae h_13
   exact cu
 ·rintro ⟨⟩ _ sl_ H_ hp_ hq_
  refine aO _ hp_ hq_ ?_
  obtain rfl:=ae hF
  exact ay (aK [(vB v_12)] ⟨rfl,trivial⟩)
theorem yR {c_1:Campaign} {k_2:ByteArray} {r:Int} (hF:kE c_1 k_2=some r) :
  FnM Tryz.prog 79 [(.d (.agg (Campaign.enc c_1))),(vS k_2)] [] (vI r) []:=by
 refine FnM.of_wH ⟨Tryz.prog,9,[],[]⟩ rfl Tryz.func79 rfl rfl (lb_ rfl) (by kernel_rfl) ?_
 unfold kE at hF
 refine ai (ig 0 (.inl rfl) (Campaign.v c_1) rfl rfl wz (λn_3=>aa (vI 0) (ah (ai (aH Bv rfl 0 rfl wz (aF 0 0 il ft sz9 ag9 rfl rfl (vS c_1.Key) rfl wz (aa (vS k_2) ?_)))))))
 obtain ⟨r_4,hr_5,hF⟩:=bind_some hF
 refine aD (kX hr_5) rfl hb80 rfl rfl rfl rfl wz (aa (vI r_4) (ah ?_))
 obtain rfl:=ae hF
 exact ay (aK [(vI r_4)] ⟨rfl,trivial⟩)
theorem gD {x_1:(List Campaign)} {target_2:ByteArray} {cmp_3:Campaign->ByteArray->Option Int} {r:Int×Bool} {gid:FuncId} {caps:List V} {Sin:List Box} (hfn:∀x0 x1 r,cmp_3 x0 x1=some r->FnM Tryz.prog gid ([(.d (.agg (Campaign.enc x0))),(vS x1)]++caps) Sin (vI r) (Sin.map some)) (hbF:aI Tryz.prog gid=true) (hcapF:caps.flatMap frz=[]/\caps.map co0=caps) (hokF:okL Sin.length caps=true) (hsF:∀b∈Sin,b.ok Sin.length=true) (hmF:∀b∈Sin,b.mut=true) (hF:bG x_1 target_2 cmp_3=some r) :
  FnM Tryz.prog 78 [(vL Campaign.enc x_1),(vS target_2),(.fn gid caps)] Sin (.tup [(vI r.1),(vB r.2)]) (Sin.map some):=by
 refine FnM.of_wH ⟨Tryz.prog,49,[],[]⟩ rfl Tryz.func78 rfl rfl (lb_ rfl) (by kernel_rfl) ?_
 unfold bG at hF
 refine ai (aa (vI 0) (aa (vB false) (ah (ai (aa (vL Campaign.enc x_1) (bR FJ rfl wz (aa (vI (x_1.length:Int)) (ah (ai (aa (vI (x_1.length:Int)) (aa (vI 0) (aa (vI (x_1.length:Int)) (ah (ak ?_))))))))))))))
 obtain ⟨o_12,hj_13,hF⟩:=bind_some hF
 obtain ⟨nq_29,hj_13⟩:=dA hj_13
 refine dZ (λ(s_9:Int×Int)=>[(0,(vL Campaign.enc x_1)),(1,(vS target_2)),(2,(.fn gid caps)),(8,(vI (x_1.length:Int))),(9,(vI s_9.1))]) (λ(s_9:Int×Int)=>(lY 0 Sin)) (λ(k_4:Nat)=>(λ(s_9:Int×Int)=>[(0,(vL Campaign.enc x_1)),(1,(vS target_2)),(2,(.fn gid caps)),(8,(vI (x_1.length:Int))),(9,(vI s_9.1)),(10,(vI s_9.2))])) (λs=>bW x_1 cmp_3 target_2 s) o_12 nq_29 (0,(x_1.length:Int)) hj_13 rfl (fw _) ?_ ?_
 ·rintro ⟨k_4,s_9⟩ hL_11
  dsimp only at hL_11
  cases k_4 with
  | zero=>cases hL_11
  | succ k_4 =>
   obtain ⟨c_,hc_10,hL_11⟩:=bind_some hL_11
   unfold bW at hc_10
   refine ak (ai (aa (vI s_9.1) (aa (vI s_9.2) (aa (vB (decide (s_9.1<s_9.2))) (ah ?_)))))
   rcases aj hc_10 with⟨hc_14,hc_10⟩|⟨hc_14,hc_10⟩
   ·refine aB rfl hc_14 (av (aM (ai (aa (vI s_9.1) (aa (vI s_9.2) (aa (vI (w64 (s_9.1+s_9.2))) (kR un3 AL rfl wz ?_)))))))
    obtain ⟨q_15,hz_16,hc_10⟩:=bind_some hc_10
    refine Ff rfl rfl hz_16 wz (kR AL un3 rfl wz (aa (vI (w64 q_15)) (ah (ai (aa (.fn gid caps) (aa (vL Campaign.enc x_1) (aa (vI (w64 q_15)) ?_)))))))
    obtain ⟨y_17,hy_18,hc_10⟩:=bind_some hc_10
    refine dD Bw rfl rfl hy_18 rfl wz (bE uC Ar rfl (.d (.agg (Campaign.enc y_17))) rfl wz (aa (vS target_2) ?_))
    obtain ⟨r_19,hr_20,hc_10⟩:=bind_some hc_10
    refine p8 (hfn _ _ _ hr_20) rfl hbF rfl rfl hcapF hokF hsF hmF rfl wz rfl (aa (vB (decide (r_19<0))) (ah ?_))
    rcases aj hc_10 with⟨hc_21,hc_10⟩|⟨hc_21,hc_10⟩
    ·refine aB rfl hc_21 (au (aa (vI (w64 q_15)) (aa (vI (w64 ((w64 q_15)+1))) (aa (vI (w64 ((w64 q_15)+1))) (ah ?_)))))
     obtain rfl:=ae hc_10
     exact aU (k_4,((w64 ((w64 q_15)+1)),s_9.2)) hL_11 (ls_ _) rfl (fw _)
    ·refine aA rfl hc_21 (au (aa (vI (w64 q_15)) (aa (vI (w64 q_15)) (ah ?_))))
     obtain rfl:=ae hc_10
     exact aU (k_4,(s_9.1,(w64 q_15))) hL_11 (ls_ _) rfl (fw _)
   ·refine aA rfl hc_14 (aV ?_)
    obtain rfl:=ae hc_10
    obtain rfl:=ae hL_11
    exact aS ((s_9.1,s_9.2)) rfl rfl (fw _)
 ·rintro s_9 ho_ sl_ H_ hp_ hq_
  subst ho_
  refine aO _ hp_ hq_ (ak ?_)
  obtain ⟨v_22,h_23,hF⟩:=bind_some hF
  refine aQ [(6,(vI s_9.1)),(7,(vB v_22))] (lY 0 Sin) ?_ ?_
  ·refine au (aa (vI s_9.1) (aa (vI s_9.1) (aa (vI (x_1.length:Int)) (aa (vB (decide (s_9.1<(x_1.length:Int)))) ?_))))
   rcases aj h_23 with⟨hc_24,h_23⟩|⟨hc_24,h_23⟩
   ·refine aC rfl hc_24 wz (aG (.fn gid caps) wa rfl (aG (vL Campaign.enc x_1) wa rfl (aG (vI s_9.1) wa rfl ?_)))
    obtain ⟨y_25,hy_26,h_23⟩:=bind_some h_23
    refine dD Bw rfl rfl hy_26 rfl wa (bE uC Ar rfl (.d (.agg (Campaign.enc y_25))) rfl wa (aG (vS target_2) wa rfl ?_))
    obtain ⟨r_27,hr_28,h_23⟩:=bind_some h_23
    refine p8 (hfn _ _ _ hr_28) rfl hbF rfl rfl hcapF hokF hsF hmF rfl wa rfl (aG (vB (r_27==0)) wa rfl (aa (vB (r_27==0)) (aa (vI s_9.1) (aa (vB (r_27==0)) (ah ?_)))))
    obtain rfl:=ae h_23
    exact aS () trivial rfl (fw _)
   ·refine aC rfl hc_24 wz (af (af (af (af (af (af (af (af (aa (vB false) (aa (vI s_9.1) (aa (vB false) (ah ?_))))))))))))
    obtain rfl:=ae h_23
    exact aS () trivial rfl (fw _)
  ·rintro ⟨⟩ _ sl_ H_ hp_ hq_
   refine aO _ hp_ hq_ ?_
   obtain rfl:=ae hF
   exact ay (ES hsF (.inr rfl) [(vI s_9.1),(vB v_22)] ⟨rfl,⟨rfl,trivial⟩⟩ rfl rfl rfl)
end Go.Proofs.YtekmkepojbhafacGreatDoor.Law

