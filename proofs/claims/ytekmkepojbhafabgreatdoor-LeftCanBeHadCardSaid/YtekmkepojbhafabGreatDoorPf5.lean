/-
 The machine computes these plain functions (written by a program of ours).
-/
import Derived.Test.YtekmkepojbhafabGreatDoorFacts
import Derived.Test.YtekmkepojbhafabGreatDoorDefs
import Derived.Test.YtekmkepojbhafabGreatDoorPf4
open Go Go.Eng Go.Proofs
namespace Go.Proofs.YtekmkepojbhafabGreatDoor.Law
set_option maxRecDepth 100000
set_option linter.unusedVariables false
set_option maxHeartbeats 1000000
theorem yL {a_1:Alert} {r:Int} (hF:kI a_1=some r) :
  FnM Tryz.prog 103 [(.d (.agg (Alert.enc a_1)))] [] (vI r) []:=by
 refine FnM.of_wH ⟨Tryz.prog,48,[],[]⟩ rfl Tryz.func103 rfl rfl (lb_ rfl) (by kernel_rfl) ?_
 unfold kI at hF
 refine ai (gQ 0 (.inl rfl) (Alert.v a_1) rfl rfl wz (λn_2=>aa (vI 0) (ah (ak (ai (aG Fq rfl 3 rfl wz (aF 0 0 il ft Au Ci rfl rfl (vL eS a_1.Refs) rfl wz (bW zm rfl wz (aa (vB (decide ((a_1.Refs.length:Int)>20))) (ah ?_))))))))))
 rcases aj hF with⟨hc_3,hF⟩|⟨hc_3,hF⟩
 ·refine aB rfl hc_3 (ai (aa (vI 2) (ah ?_)))
  obtain rfl:=ae hF
  exact ay (aJ [(vI 2)] ⟨rfl,trivial⟩)
 ·refine aA rfl hc_3 (ax (ak (ai (aG Fq rfl 3 rfl wz (aF 0 0 il ft Au Ci rfl rfl (vL eS a_1.Refs) rfl wz (bW zm rfl wz (aa (vI 0) (ah ?_))))))))
  obtain ⟨o_12,hj_13,hF⟩:=bind_some hF
  obtain ⟨hn_8,hj_13⟩:=bv hj_13
  refine di (λ(s_9:Unit)=>[(1,(.ref n_2 0 0))]) (λ(s_9:Unit)=>[(n_2,some (.cells 9 (Alert.v a_1)))]) (λ(k_4:Nat)=>(λ(s_9:Unit)=>[(1,(.ref n_2 0 0)),(10,(vL eS a_1.Refs)),(11,(vI (a_1.Refs.length:Int))),(12,(vI (k_4:Int)))])) (λk x s=>iR a_1 k x s) o_12 a_1.Refs () hj_13 rfl (aK rfl) ?_ ?_
  ·rintro ⟨k_4,l_5,s_9⟩ ⟨hL_11,hD_7⟩
   dsimp only at hL_11 hD_7
   cases l_5 with
   | nil =>
    obtain rfl:=ae hL_11
    refine ai (aa (vB (decide ((k_4:Int)<(a_1.Refs.length:Int)))) (ah ?_))
    refine ak (aA rfl (drop_nil hD_7) (aX ?_))
    exact aU (s_9) rfl rfl (aK rfl)
   | cons x_6 l_5 =>
    obtain ⟨c_,hc_10,hL_11⟩:=bind_some hL_11
    refine ai (aa (vB (decide ((k_4:Int)<(a_1.Refs.length:Int)))) (ah ?_))
    refine ak (aB rfl (bD hD_7) (ax ?_))
    unfold iR at hc_10
    refine ak (aN (ai (aa (vI (k_4:Int)) (dR ut rfl rfl (bR hD_7) rfl wz (bQ sz9 ag9 rfl (vS x_6) rfl wz (aa (vI (k_4:Int)) (aa (vS x_6) (ah (aN (ai (aa (vS x_6) ?_)))))))))))
    obtain ⟨r_14,hr_15,hc_10⟩:=bind_some hc_10
    refine aD (fw hr_15) rfl BI rfl rfl rfl rfl wz (aa (vB (!r_14)) (aa (vB (!r_14)) (ah ?_)))
    rcases aj hc_10 with⟨hc_16,hc_10⟩|⟨hc_16,hc_10⟩
    ·refine aB rfl hc_16 (ai (aa (vI 5) (ah ?_)))
     obtain rfl:=ae hc_10
     obtain rfl:=ae hL_11
     obtain rfl:=ae hF
     exact ay (aJ [(vI 5)] ⟨rfl,trivial⟩)
    ·refine aA rfl hc_16 (ak ?_)
     obtain ⟨v_17,h_18,hc_10⟩:=bind_some hc_10
     refine aP [(1,(.ref n_2 0 0)),(4,(vS x_6)),(10,(vL eS a_1.Refs)),(11,(vI (a_1.Refs.length:Int))),(12,(vI (k_4:Int))),(21,(vB v_17))] [(n_2,some (.cells 9 (Alert.v a_1)))] ?_ ?_
     ·refine au (aa (vI (k_4:Int)) (aa (vB (decide ((k_4:Int)>0))) ?_))
      rcases aj h_18 with⟨hc_19,h_18⟩|⟨hc_19,h_18⟩
      ·refine aC rfl hc_19 wz (aH (vS x_6) wa rfl (aG Fq rfl 3 rfl wa (aF 0 0 il ft Au Ci rfl rfl (vL eS a_1.Refs) rfl wa (aH (vI (k_4:Int)) wa rfl (aH (vI (w64 ((k_4:Int)-1))) wa rfl ?_)))))
       obtain ⟨y_20,hy_21,h_18⟩:=bind_some h_18
       refine dR ut rfl rfl hy_21 rfl wa (bQ sz9 ag9 rfl (vS y_20) rfl wa (aH (vB (sLe x_6 y_20)) wa rfl (aa (vB (sLe x_6 y_20)) (aa (vB (sLe x_6 y_20)) (ah ?_)))))
       obtain rfl:=ae h_18
       exact cu
      ·refine aC rfl hc_19 wz (af (af (af (af (af (af (af (af (aa (vB false) (aa (vB false) (ah ?_)))))))))))
       obtain rfl:=ae h_18
       exact cu
     ·rintro ⟨⟩ _ sl_ H_ hp_ hq_
      refine aO _ hp_ hq_ ?_
      rcases aj hc_10 with⟨hc_22,hc_10⟩|⟨hc_22,hc_10⟩
      ·refine aB rfl hc_22 (ai (aa (vI 7) (ah ?_)))
       obtain rfl:=ae hc_10
       obtain rfl:=ae hL_11
       obtain rfl:=ae hF
       exact ay (aJ [(vI 7)] ⟨rfl,trivial⟩)
      ·refine aA rfl hc_22 (ai (aa (vS x_6) (aG Aj rfl 0 rfl wz (aF 0 0 il ft sz9 ag9 rfl rfl (vS a_1.Id) rfl wz (aa (vB (sEq x_6 a_1.Id)) (aa (vB (sEq x_6 a_1.Id)) (ah ?_)))))))
       rcases aj hc_10 with⟨hc_23,hc_10⟩|⟨hc_23,hc_10⟩
       ·refine aB rfl hc_23 (ai (aa (vI 14) (ah ?_)))
        obtain rfl:=ae hc_10
        obtain rfl:=ae hL_11
        obtain rfl:=ae hF
        exact ay (aJ [(vI 14)] ⟨rfl,trivial⟩)
       ·refine aA rfl hc_23 (ax (au (eY (bH hD_7 hn_8) wz rfl (aa (vI ((k_4+1:Nat):Int)) (ah ?_)))))
        obtain rfl:=ae hc_10
        exact aY (k_4+1,l_5,()) ⟨hL_11,aZ hD_7⟩ (ls_ _) rfl (aK rfl)
  ·rintro s_9 ho_ sl_ H_ hp_ hq_
   subst ho_
   refine aO _ hp_ hq_ (ak (ai (aG JG rfl 2 rfl wz (aF 0 0 il ft sz3 ag3 rfl rfl (vI a_1.Kind) rfl wz (aa (vB (a_1.Kind==1)) (aG Fq rfl 3 rfl wz (aF 0 0 il ft Au Ci rfl rfl (vL eS a_1.Refs) rfl wz (bW zm rfl wz (aa (vB ((a_1.Refs.length:Int)==0)) (Nj un4 rfl rfl wz (ah ?_)))))))))))
   rcases aj hF with⟨hc_24,hF⟩|⟨hc_24,hF⟩
   ·refine aB rfl hc_24 (ai (aa (vI 3) (ah ?_)))
    obtain rfl:=ae hF
    exact ay (aJ [(vI 3)] ⟨rfl,trivial⟩)
   ·refine aA rfl hc_24 (ax (ai (aa (vI 0) (ah ?_))))
    obtain rfl:=ae hF
    exact ay (aJ [(vI 0)] ⟨rfl,trivial⟩)
theorem cK {s_1:ByteArray} {r:Int} (hF:bB s_1=some r) :
  FnM Tryz.prog 128 [(vS s_1)] [] (.d (.int .u64 r)) []:=by
 refine FnM.of_wH ⟨Tryz.prog,59,[],[]⟩ rfl Tryz.func128 rfl rfl (lb_ rfl) (by kernel_rfl) ?_
 unfold bB at hF
 refine ai (aa (.d (.int .u64 0)) (ah (ak (aA rfl rfl (ax (ak (bC (aa (vS s_1) ?_))))))))
 obtain ⟨b_2,hy_3,hF⟩:=bind_some hF
 refine kz un9 rfl rfl hy_3 wz (mJ un5 yX rfl wz (aa (vS s_1) ?_))
 obtain ⟨b_4,hy_5,hF⟩:=bind_some hF
 refine kz un9 rfl rfl hy_5 wz (mJ un5 yX rfl wz ?_)
 obtain ⟨q_6,hz_7,hF⟩:=bind_some hF
 refine Bc rfl rfl hz_7 wz (aa (.d (.int .u64 (orI .u64 (IntKind.u64.wrap (b_2.toNat:Int)) q_6))) (aa (vS s_1) ?_))
 obtain ⟨b_8,hy_9,hF⟩:=bind_some hF
 refine kz un9 rfl rfl hy_9 wz (mJ un5 yX rfl wz ?_)
 obtain ⟨q_10,hz_11,hF⟩:=bind_some hF
 refine Bc rfl rfl hz_11 wz (aa (.d (.int .u64 (orI .u64 (orI .u64 (IntKind.u64.wrap (b_2.toNat:Int)) q_6) q_10))) (aa (vS s_1) ?_))
 obtain ⟨b_12,hy_13,hF⟩:=bind_some hF
 refine kz un9 rfl rfl hy_13 wz (mJ un5 yX rfl wz ?_)
 obtain ⟨q_14,hz_15,hF⟩:=bind_some hF
 refine Bc rfl rfl hz_15 wz (aa (.d (.int .u64 (orI .u64 (orI .u64 (orI .u64 (IntKind.u64.wrap (b_2.toNat:Int)) q_6) q_10) q_14))) (aa (vS s_1) ?_))
 obtain ⟨b_16,hy_17,hF⟩:=bind_some hF
 refine kz un9 rfl rfl hy_17 wz (mJ un5 yX rfl wz ?_)
 obtain ⟨q_18,hz_19,hF⟩:=bind_some hF
 refine Bc rfl rfl hz_19 wz (aa (.d (.int .u64 (orI .u64 (orI .u64 (orI .u64 (orI .u64 (IntKind.u64.wrap (b_2.toNat:Int)) q_6) q_10) q_14) q_18))) (aa (vS s_1) ?_))
 obtain ⟨b_20,hy_21,hF⟩:=bind_some hF
 refine kz un9 rfl rfl hy_21 wz (mJ un5 yX rfl wz ?_)
 obtain ⟨q_22,hz_23,hF⟩:=bind_some hF
 refine Bc rfl rfl hz_23 wz (aa (.d (.int .u64 (orI .u64 (orI .u64 (orI .u64 (orI .u64 (orI .u64 (IntKind.u64.wrap (b_2.toNat:Int)) q_6) q_10) q_14) q_18) q_22))) (aa (vS s_1) ?_))
 obtain ⟨b_24,hy_25,hF⟩:=bind_some hF
 refine kz un9 rfl rfl hy_25 wz (mJ un5 yX rfl wz ?_)
 obtain ⟨q_26,hz_27,hF⟩:=bind_some hF
 refine Bc rfl rfl hz_27 wz (aa (.d (.int .u64 (orI .u64 (orI .u64 (orI .u64 (orI .u64 (orI .u64 (orI .u64 (IntKind.u64.wrap (b_2.toNat:Int)) q_6) q_10) q_14) q_18) q_22) q_26))) (aa (vS s_1) ?_))
 obtain ⟨b_28,hy_29,hF⟩:=bind_some hF
 refine kz un9 rfl rfl hy_29 wz (mJ un5 yX rfl wz ?_)
 obtain ⟨q_30,hz_31,hF⟩:=bind_some hF
 refine Bc rfl rfl hz_31 wz (aa (.d (.int .u64 (orI .u64 (orI .u64 (orI .u64 (orI .u64 (orI .u64 (orI .u64 (orI .u64 (IntKind.u64.wrap (b_2.toNat:Int)) q_6) q_10) q_14) q_18) q_22) q_26) q_30))) (aa (.d (.int .u64 (orI .u64 (orI .u64 (orI .u64 (orI .u64 (orI .u64 (orI .u64 (orI .u64 (IntKind.u64.wrap (b_2.toNat:Int)) q_6) q_10) q_14) q_18) q_22) q_26) q_30))) (ah (aO (H0:=([]:Hp)) ([(2,(.d (.int .u64 (orI .u64 (orI .u64 (orI .u64 (orI .u64 (orI .u64 (orI .u64 (orI .u64 (IntKind.u64.wrap (b_2.toNat:Int)) q_6) q_10) q_14) q_18) q_22) q_26) q_30))))]:SL_) (by kernel_rfl) (sW (by kernel_rfl)) ?_))))
 obtain rfl:=ae hF
 exact ay (aJ [(.d (.int .u64 (orI .u64 (orI .u64 (orI .u64 (orI .u64 (orI .u64 (orI .u64 (orI .u64 (IntKind.u64.wrap (b_2.toNat:Int)) q_6) q_10) q_14) q_18) q_22) q_26) q_30)))] ⟨rfl,trivial⟩)
theorem qF {s_1:ByteArray} {r:Bool} (hF:fq s_1=some r) :
  FnM Tryz.prog 120 [(vS s_1)] [] (vB r) []:=by
 refine FnM.of_wH ⟨Tryz.prog,169,[],[]⟩ rfl Tryz.func120 rfl rfl (lb_ rfl) (by kernel_rfl) ?_
 unfold fq at hF
 refine ai (aa (vB false) (ah (ak ?_)))
 obtain ⟨o_10,hj_11,hF⟩:=bind_some hF
 obtain ⟨nq_71,hj_11⟩:=dz hj_11
 refine fo (λ(s_7:ByteArray)=>[]) (λ(s_7:ByteArray)=>[]) (λ(k_2:Nat)=>(λ(s_7:ByteArray)=>[(0,(vS s_7))])) (λs=>dW s) o_10 nq_71 s_1 hj_11 rfl (aK rfl) ?_ ?_
 ·rintro ⟨k_2,s_7⟩ hL_9
  dsimp only at hL_9
  cases k_2 with
  | zero=>cases hL_9
  | succ k_2 =>
   obtain ⟨c_,hc_8,hL_9⟩:=bind_some hL_9
   unfold dW at hc_8
   refine ak (ai (aa (vS s_7) (mX un9 rfl wz (aa (vB (decide ((s_7.size:Int)>0))) (ah ?_)))))
   rcases aj hc_8 with⟨hc_12,hc_8⟩|⟨hc_12,hc_8⟩
   ·refine aB rfl hc_12 (ax (aN (ai (aa (vS s_7) ?_))))
    obtain ⟨b_13,hy_14,hc_8⟩:=bind_some hc_8
    refine kz un9 rfl rfl hy_14 wz (aa (.d (.int .u8 (b_13.toNat:Int))) (ah (ak (ai (aa (.d (.int .u8 (b_13.toNat:Int))) (aa (vB (decide ((b_13.toNat:Int)<128))) (ah ?_)))))))
    rcases aj hc_8 with⟨hc_15,hc_8⟩|⟨hc_15,hc_8⟩
    ·refine aB rfl hc_15 (ai (aa (vS s_7) ?_))
     obtain ⟨y_16,hy_17,hc_8⟩:=bind_some hc_8
     refine fK un9 rfl rfl hy_17 wz (aa (vS y_16) (ah (ak (ak ?_))))
     obtain ⟨v_18,h_19,hc_8⟩:=bind_some hc_8
     refine aP [(0,(vS y_16)),(24,(vB v_18))] [] ?_ ?_
     ·refine au (aa (vS y_16) (mX un9 rfl wz (aa (vB (decide ((y_16.size:Int)>8))) ?_)))
      rcases aj h_19 with⟨hc_20,h_19⟩|⟨hc_20,h_19⟩
      ·refine aC rfl hc_20 wz (aH (vS y_16) wa rfl ?_)
       obtain ⟨r_21,hr_22,h_19⟩:=bind_some h_19
       refine aD (cK hr_22) rfl DT rfl rfl rfl rfl wa (aH (.d (.int .u64 (vv .u64 r_21 9259542123273814144))) wa rfl (aH (vB ((vv .u64 r_21 9259542123273814144)==0)) wa rfl (aa (vB ((vv .u64 r_21 9259542123273814144)==0)) (ah ?_))))
       obtain rfl:=ae h_19
       exact cu
      ·refine aC rfl hc_20 wz (af (af (af (af (aa (vB false) (ah ?_))))))
       obtain rfl:=ae h_19
       exact cu
     ·rintro ⟨⟩ _ sl_ H_ hp_ hq_
      refine aO _ hp_ hq_ ?_
      obtain ⟨v_23,h_24,hc_8⟩:=bind_some hc_8
      refine aP [(0,(vS v_23))] [] ?_ ?_
      ·rcases aj h_24 with⟨hc_25,h_24⟩|⟨hc_25,h_24⟩
       ·refine aB rfl hc_25 (ai (aa (vS y_16) ?_))
        obtain ⟨y_26,hy_27,h_24⟩:=bind_some h_24
        refine fK un9 rfl rfl hy_27 wz (aa (vS y_26) (ah (ak ?_)))
        obtain ⟨v_28,h_29,h_24⟩:=bind_some h_24
        refine aP [(0,(vS y_26)),(39,(vB v_28))] [] ?_ ?_
        ·refine bC (aa (vS y_26) (mX un9 rfl wz (aa (vB (decide ((y_26.size:Int)>16))) ?_)))
         rcases aj h_29 with⟨hc_30,h_29⟩|⟨hc_30,h_29⟩
         ·refine aC rfl hc_30 wz (aH (vS y_26) wa rfl ?_)
          obtain ⟨r_31,hr_32,h_29⟩:=bind_some h_29
          refine aD (cK hr_32) rfl DT rfl rfl rfl rfl wa (aH (vS y_26) wa rfl ?_)
          obtain ⟨y_33,hy_34,h_29⟩:=bind_some h_29
          refine fK un9 rfl rfl hy_34 wa ?_
          obtain ⟨r_35,hr_36,h_29⟩:=bind_some h_29
          refine aD (cK hr_36) rfl DT rfl rfl rfl rfl wa (aH (.d (.int .u64 (orI .u64 r_31 r_35))) wa rfl (aH (.d (.int .u64 (vv .u64 (orI .u64 r_31 r_35) 9259542123273814144))) wa rfl (aH (vB ((vv .u64 (orI .u64 r_31 r_35) 9259542123273814144)==0)) wa rfl (aa (vB ((vv .u64 (orI .u64 r_31 r_35) 9259542123273814144)==0)) (ah ?_)))))
          obtain rfl:=ae h_29
          exact cu
         ·refine aC rfl hc_30 wz (af (af (af (af (af (af (af (af (aa (vB false) (ah ?_))))))))))
          obtain rfl:=ae h_29
          exact cu
        ·rintro ⟨⟩ _ sl_ H_ hp_ hq_
         refine aO _ hp_ hq_ ?_
         rcases aj h_24 with⟨hc_37,h_24⟩|⟨hc_37,h_24⟩
         ·refine aB rfl hc_37 (ai (aa (vS y_26) ?_))
          obtain ⟨y_38,hy_39,h_24⟩:=bind_some h_24
          refine fK un9 rfl rfl hy_39 wz (aa (vS y_38) (ah ?_))
          obtain ⟨o_48,hj_49,h_24⟩:=bind_some h_24
          obtain ⟨nq_70,hj_49⟩:=dz hj_49
          refine fo (λ(s_45:ByteArray)=>[(0,(vS s_45))]) (λ(s_45:ByteArray)=>[]) (λ(k_40:Nat)=>(λ(s_45:ByteArray)=>[(0,(vS s_45))])) (λs=>fJ s) o_48 nq_70 y_38 hj_49 rfl (aK rfl) ?_ ?_
          ·rintro ⟨k_40,s_45⟩ hL_47
           dsimp only at hL_47
           cases k_40 with
           | zero=>cases hL_47
           | succ k_40 =>
            obtain ⟨c_,hc_46,hL_47⟩:=bind_some hL_47
            unfold fJ at hc_46
            refine ak (ak ?_)
            obtain ⟨v_50,h_51,hc_46⟩:=bind_some hc_46
            refine aP [(0,(vS s_45)),(62,(vB v_50))] [] ?_ ?_
            ·refine bC (aa (vS s_45) (mX un9 rfl wz (aa (vB (decide ((s_45.size:Int)>32))) ?_)))
             rcases aj h_51 with⟨hc_52,h_51⟩|⟨hc_52,h_51⟩
             ·refine aC rfl hc_52 wz (aH (vS s_45) wa rfl ?_)
              obtain ⟨r_53,hr_54,h_51⟩:=bind_some h_51
              refine aD (cK hr_54) rfl DT rfl rfl rfl rfl wa (aH (vS s_45) wa rfl ?_)
              obtain ⟨y_55,hy_56,h_51⟩:=bind_some h_51
              refine fK un9 rfl rfl hy_56 wa ?_
              obtain ⟨r_57,hr_58,h_51⟩:=bind_some h_51
              refine aD (cK hr_58) rfl DT rfl rfl rfl rfl wa (aH (.d (.int .u64 (orI .u64 r_53 r_57))) wa rfl (aH (vS s_45) wa rfl ?_))
              obtain ⟨y_59,hy_60,h_51⟩:=bind_some h_51
              refine fK un9 rfl rfl hy_60 wa ?_
              obtain ⟨r_61,hr_62,h_51⟩:=bind_some h_51
              refine aD (cK hr_62) rfl DT rfl rfl rfl rfl wa (aH (vS s_45) wa rfl ?_)
              obtain ⟨y_63,hy_64,h_51⟩:=bind_some h_51
              refine fK un9 rfl rfl hy_64 wa ?_
              obtain ⟨r_65,hr_66,h_51⟩:=bind_some h_51
              refine aD (cK hr_66) rfl DT rfl rfl rfl rfl wa (aH (.d (.int .u64 (orI .u64 r_61 r_65))) wa rfl (aH (.d (.int .u64 (orI .u64 (orI .u64 r_53 r_57) (orI .u64 r_61 r_65)))) wa rfl (aH (.d (.int .u64 (vv .u64 (orI .u64 (orI .u64 r_53 r_57) (orI .u64 r_61 r_65)) 9259542123273814144))) wa rfl (aH (vB ((vv .u64 (orI .u64 (orI .u64 r_53 r_57) (orI .u64 r_61 r_65)) 9259542123273814144)==0)) wa rfl (aa (vB ((vv .u64 (orI .u64 (orI .u64 r_53 r_57) (orI .u64 r_61 r_65)) 9259542123273814144)==0)) (ah ?_))))))
              obtain rfl:=ae h_51
              exact cu
             ·refine aC rfl hc_52 wz (af (af (af (af (af (af (af (af (af (af (af (af (af (af (af (af (aa (vB false) (ah ?_))))))))))))))))))
              obtain rfl:=ae h_51
              exact cu
            ·rintro ⟨⟩ _ sl_ H_ hp_ hq_
             refine aO _ hp_ hq_ ?_
             rcases aj hc_46 with⟨hc_67,hc_46⟩|⟨hc_67,hc_46⟩
             ·refine aB rfl hc_67 (ax (aN (au (aa (vS s_45) ?_))))
              obtain ⟨y_68,hy_69,hc_46⟩:=bind_some hc_46
              refine fK un9 rfl rfl hy_69 wz (aa (vS y_68) (ah ?_))
              obtain rfl:=ae hc_46
              exact aY (k_40,y_68) hL_47 (ls_ _) rfl (aK rfl)
             ·refine aA rfl hc_67 (aX ?_)
              obtain rfl:=ae hc_46
              obtain rfl:=ae hL_47
              exact aU (s_45) rfl rfl (aK rfl)
          ·rintro s_45 ho_ sl_ H_ hp_ hq_
           subst ho_
           obtain rfl:=ae h_24
           exact aU () trivial (pick_at [0] hp_ rfl) (pre_at hq_ (aK rfl))
         ·refine aA rfl hc_37 (ax ?_)
          obtain rfl:=ae h_24
          exact cu
       ·refine aA rfl hc_25 (ax ?_)
        obtain rfl:=ae h_24
        exact cu
      ·rintro ⟨⟩ _ sl_ H_ hp_ hq_
       refine aO _ hp_ hq_ (aX ?_)
       obtain rfl:=ae hc_8
       exact aY (k_2,v_23) hL_9 (ls_ _) rfl (aK rfl)
    ·refine aA rfl hc_15 (ax (ai (aa (.d (.int .u8 (b_13.toNat:Int))) ?_)))
     cases hc_8
   ·refine aA rfl hc_12 (aX ?_)
    obtain rfl:=ae hc_8
    obtain rfl:=ae hL_9
    exact aU (s_7) rfl rfl (aK rfl)
 ·rintro s_7 ho_ sl_ H_ hp_ hq_
  subst ho_
  refine aO _ hp_ hq_ (ai (aa (vB true) (ah ?_)))
  obtain rfl:=ae hF
  exact ay (aJ [(vB true)] ⟨rfl,trivial⟩)
theorem sZ {s_1:ByteArray} {c_2:Int} {r:ByteArray} (hF:strings_trimRightByte s_1 c_2=some r) :
  FnM Tryz.prog 130 [(vS s_1),(.d (.int .u8 c_2))] [] (vS r) []:=by
 refine FnM.of_wH ⟨Tryz.prog,23,[],[]⟩ rfl Tryz.func130 rfl rfl (lb_ rfl) (by kernel_rfl) ?_
 unfold strings_trimRightByte at hF
 refine ai (aa (vS (⟨#[]⟩:ByteArray)) (ah (ak ?_)))
 obtain ⟨o_11,hj_12,hF⟩:=bind_some hF
 obtain ⟨nq_21,hj_12⟩:=dz hj_12
 refine fo (λ(s_8:ByteArray)=>[(0,(vS s_8))]) (λ(s_8:ByteArray)=>[]) (λ(k_3:Nat)=>(λ(s_8:ByteArray)=>[(0,(vS s_8)),(1,(.d (.int .u8 c_2)))])) (λs=>gy c_2 s) o_11 nq_21 s_1 hj_12 rfl (aK rfl) ?_ ?_
 ·rintro ⟨k_3,s_8⟩ hL_10
  dsimp only at hL_10
  cases k_3 with
  | zero=>cases hL_10
  | succ k_3 =>
   obtain ⟨c_,hc_9,hL_10⟩:=bind_some hL_10
   unfold gy at hc_9
   refine ak (ak ?_)
   obtain ⟨v_13,h_14,hc_9⟩:=bind_some hc_9
   refine aP [(0,(vS s_8)),(1,(.d (.int .u8 c_2))),(16,(vB v_13))] [] ?_ ?_
   ·refine au (aa (vS s_8) (mX un9 rfl wz (aa (vB (decide ((s_8.size:Int)>0))) ?_)))
    rcases aj h_14 with⟨hc_15,h_14⟩|⟨hc_15,h_14⟩
    ·refine aC rfl hc_15 wz (aH (vS s_8) wa rfl (aH (vS s_8) wa rfl (mX un9 rfl wa (aH (vI (w64 ((s_8.size:Int)-1))) wa rfl ?_))))
     obtain ⟨b_16,hy_17,h_14⟩:=bind_some h_14
     refine kz un9 rfl rfl hy_17 wa (aH (.d (.int .u8 c_2)) wa rfl (aH (vB ((b_16.toNat:Int)==c_2)) wa rfl (aa (vB ((b_16.toNat:Int)==c_2)) (ah ?_))))
     obtain rfl:=ae h_14
     exact cu
    ·refine aC rfl hc_15 wz (af (af (af (af (af (af (af (aa (vB false) (ah ?_)))))))))
     obtain rfl:=ae h_14
     exact cu
   ·rintro ⟨⟩ _ sl_ H_ hp_ hq_
    refine aO _ hp_ hq_ ?_
    rcases aj hc_9 with⟨hc_18,hc_9⟩|⟨hc_18,hc_9⟩
    ·refine aB rfl hc_18 (ax (aN (au (aa (vS s_8) (aa (vS s_8) (mX un9 rfl wz (aa (vI (w64 ((s_8.size:Int)-1))) ?_)))))))
     obtain ⟨y_19,hy_20,hc_9⟩:=bind_some hc_9
     refine CS un9 rfl rfl hy_20 wz (aa (vS y_19) (ah ?_))
     obtain rfl:=ae hc_9
     exact aY (k_3,y_19) hL_10 (ls_ _) rfl (aK rfl)
    ·refine aA rfl hc_18 (aX ?_)
     obtain rfl:=ae hc_9
     obtain rfl:=ae hL_10
     exact aU (s_8) rfl rfl (aK rfl)
 ·rintro s_8 ho_ sl_ H_ hp_ hq_
  subst ho_
  refine aO _ hp_ hq_ (ai (aa (vS s_8) (aa (vS s_8) (ah ?_))))
  obtain rfl:=ae hF
  exact ay (aJ [(vS s_8)] ⟨rfl,trivial⟩)
theorem tH {s_1:ByteArray} {c_2:Int} {r:ByteArray} (hF:strings_trimLeftByte s_1 c_2=some r) :
  FnM Tryz.prog 129 [(vS s_1),(.d (.int .u8 c_2))] [] (vS r) []:=by
 refine FnM.of_wH ⟨Tryz.prog,17,[],[]⟩ rfl Tryz.func129 rfl rfl (lb_ rfl) (by kernel_rfl) ?_
 unfold strings_trimLeftByte at hF
 refine ai (aa (vS (⟨#[]⟩:ByteArray)) (ah (ak ?_)))
 obtain ⟨o_11,hj_12,hF⟩:=bind_some hF
 obtain ⟨nq_21,hj_12⟩:=dz hj_12
 refine fo (λ(s_8:ByteArray)=>[(0,(vS s_8))]) (λ(s_8:ByteArray)=>[]) (λ(k_3:Nat)=>(λ(s_8:ByteArray)=>[(0,(vS s_8)),(1,(.d (.int .u8 c_2)))])) (λs=>gN c_2 s) o_11 nq_21 s_1 hj_12 rfl (aK rfl) ?_ ?_
 ·rintro ⟨k_3,s_8⟩ hL_10
  dsimp only at hL_10
  cases k_3 with
  | zero=>cases hL_10
  | succ k_3 =>
   obtain ⟨c_,hc_9,hL_10⟩:=bind_some hL_10
   unfold gN at hc_9
   refine ak (ak ?_)
   obtain ⟨v_13,h_14,hc_9⟩:=bind_some hc_9
   refine aP [(0,(vS s_8)),(1,(.d (.int .u8 c_2))),(13,(vB v_13))] [] ?_ ?_
   ·refine au (aa (vS s_8) (mX un9 rfl wz (aa (vB (decide ((s_8.size:Int)>0))) ?_)))
    rcases aj h_14 with⟨hc_15,h_14⟩|⟨hc_15,h_14⟩
    ·refine aC rfl hc_15 wz (aH (vS s_8) wa rfl ?_)
     obtain ⟨b_16,hy_17,h_14⟩:=bind_some h_14
     refine kz un9 rfl rfl hy_17 wa (aH (.d (.int .u8 c_2)) wa rfl (aH (vB ((b_16.toNat:Int)==c_2)) wa rfl (aa (vB ((b_16.toNat:Int)==c_2)) (ah ?_))))
     obtain rfl:=ae h_14
     exact cu
    ·refine aC rfl hc_15 wz (af (af (af (af (aa (vB false) (ah ?_))))))
     obtain rfl:=ae h_14
     exact cu
   ·rintro ⟨⟩ _ sl_ H_ hp_ hq_
    refine aO _ hp_ hq_ ?_
    rcases aj hc_9 with⟨hc_18,hc_9⟩|⟨hc_18,hc_9⟩
    ·refine aB rfl hc_18 (ax (aN (au (aa (vS s_8) ?_))))
     obtain ⟨y_19,hy_20,hc_9⟩:=bind_some hc_9
     refine fK un9 rfl rfl hy_20 wz (aa (vS y_19) (ah ?_))
     obtain rfl:=ae hc_9
     exact aY (k_3,y_19) hL_10 (ls_ _) rfl (aK rfl)
    ·refine aA rfl hc_18 (aX ?_)
     obtain rfl:=ae hc_9
     obtain rfl:=ae hL_10
     exact aU (s_8) rfl rfl (aK rfl)
 ·rintro s_8 ho_ sl_ H_ hp_ hq_
  subst ho_
  refine aO _ hp_ hq_ (ai (aa (vS s_8) (aa (vS s_8) (ah ?_))))
  obtain rfl:=ae hF
  exact ay (aJ [(vS s_8)] ⟨rfl,trivial⟩)
theorem Bp {s_1:ByteArray} {cutset_2:ByteArray} {r:ByteArray} (hF:nH s_1 cutset_2=some r) :
  FnM Tryz.prog 121 [(vS s_1),(vS cutset_2)] [] (vS r) []:=by
 refine FnM.of_wH ⟨Tryz.prog,43,[],[]⟩ rfl Tryz.func121 rfl rfl (lb_ rfl) (by kernel_rfl) ?_
 unfold nH at hF
 refine ai (aa (vS (⟨#[]⟩:ByteArray)) (ah (ak (ak ?_))))
 obtain ⟨v_3,h_4,hF⟩:=bind_some hF
 refine aP [(0,(vS s_1)),(1,(vS cutset_2)),(12,(vB v_3))] [] ?_ ?_
 ·refine au (aa (vS s_1) (aa (vB (sEq s_1 (⟨#[]⟩:ByteArray))) ?_))
  rcases aj h_4 with⟨hc_5,h_4⟩|⟨hc_5,h_4⟩
  ·refine aC rfl hc_5 wz (af (af (aa (vB true) (ah ?_))))
   obtain rfl:=ae h_4
   exact cu
  ·refine aC rfl hc_5 wz (aH (vS cutset_2) wa rfl (aH (vB (sEq cutset_2 (⟨#[]⟩:ByteArray))) wa rfl (aa (vB (sEq cutset_2 (⟨#[]⟩:ByteArray))) (ah ?_))))
   obtain rfl:=ae h_4
   exact cu
 ·rintro ⟨⟩ _ sl_ H_ hp_ hq_
  refine aO _ hp_ hq_ ?_
  rcases aj hF with⟨hc_6,hF⟩|⟨hc_6,hF⟩
  ·refine aB rfl hc_6 (ai (aa (vS s_1) (aa (vS s_1) (ah ?_))))
   obtain rfl:=ae hF
   exact ay (aJ [(vS s_1)] ⟨rfl,trivial⟩)
  ·refine aA rfl hc_6 (ax (ak (ak ?_)))
   obtain ⟨v_7,h_8,hF⟩:=bind_some hF
   refine aP [(0,(vS s_1)),(1,(vS cutset_2)),(21,(vB v_7))] [] ?_ ?_
   ·refine au (aa (vS cutset_2) (mX un9 rfl wz (aa (vB ((cutset_2.size:Int)==1)) ?_)))
    rcases aj h_8 with⟨hc_9,h_8⟩|⟨hc_9,h_8⟩
    ·refine aC rfl hc_9 wz (aH (vS cutset_2) wa rfl ?_)
     obtain ⟨b_10,hy_11,h_8⟩:=bind_some h_8
     refine kz un9 rfl rfl hy_11 wa (aH (vB (decide ((b_10.toNat:Int)<128))) wa rfl (aa (vB (decide ((b_10.toNat:Int)<128))) (ah ?_)))
     obtain rfl:=ae h_8
     exact cu
    ·refine aC rfl hc_9 wz (af (af (af (aa (vB false) (ah ?_)))))
     obtain rfl:=ae h_8
     exact cu
   ·rintro ⟨⟩ _ sl_ H_ hp_ hq_
    refine aO _ hp_ hq_ ?_
    rcases aj hF with⟨hc_12,hF⟩|⟨hc_12,hF⟩
    ·refine aB rfl hc_12 (ak (bC (aa (vS s_1) (aa (vS cutset_2) ?_))))
     obtain ⟨b_13,hy_14,hF⟩:=bind_some hF
     refine kz un9 rfl rfl hy_14 wz ?_
     obtain ⟨r_15,hr_16,hF⟩:=bind_some hF
     refine aD (sZ hr_16) rfl hb130 rfl rfl rfl rfl wz (aa (vS cutset_2) ?_)
     obtain ⟨b_17,hy_18,hF⟩:=bind_some hF
     refine kz un9 rfl rfl hy_18 wz ?_
     obtain ⟨r_19,hr_20,hF⟩:=bind_some hF
     refine aD (tH hr_20) rfl hb129 rfl rfl rfl rfl wz (aa (vS r_19) (ah ?_))
     obtain rfl:=ae hF
     exact ay (aJ [(vS r_19)] ⟨rfl,trivial⟩)
    ·refine aA rfl hc_12 (ax (ak (ai (aa (vS cutset_2) ?_))))
     cases hF
theorem nC {s_1:ByteArray} {c_2:Int} {r:Int} (hF:gu s_1 c_2=some r) :
  FnM Tryz.prog 146 [(vS s_1),(.d (.int .u8 c_2))] [] (vI r) []:=by
 refine FnM.of_wH ⟨Tryz.prog,8,[],[]⟩ rfl Tryz.func146 rfl rfl (lb_ rfl) (by kernel_rfl) ?_
 unfold gu at hF
 refine ai (aa (vI 0) (ah (ai (aa (vS s_1) (aa (.d (.int .u8 c_2)) (h_ext (ext_ixB (f:=152) Tryz.func152 rfl rfl (by kernel_rfl) (by kernel_rfl) _ _) rfl nb152 rfl wz (aa (vI (ixB s_1 c_2)) (ah ?_))))))))
 obtain rfl:=ae hF
 exact ay (aJ [(vI (ixB s_1 c_2))] ⟨rfl,trivial⟩)
theorem pO {s_1:ByteArray} {substr_2:ByteArray} {r:Int} (hF:iP s_1 substr_2=some r) :
  FnM Tryz.prog 142 [(vS s_1),(vS substr_2)] [] (vI r) []:=by
 refine FnM.of_wH ⟨Tryz.prog,143,[],[]⟩ rfl Tryz.func142 rfl rfl (lb_ rfl) (by kernel_rfl) ?_
 unfold iP at hF
 refine ai (aa (vI 0) (ah (ai (aa (vS substr_2) (mX un9 rfl wz (aa (vI (substr_2.size:Int)) (ah (ak (aN (ak ?_))))))))))
 obtain ⟨v_3,h_4,hF⟩:=bind_some hF
 refine aP [(0,(vS s_1)),(1,(vS substr_2)),(5,(vI (substr_2.size:Int))),(16,(vB v_3))] [] ?_ ?_
 ·refine au (aa (vI (substr_2.size:Int)) (aa (vB ((substr_2.size:Int)==0)) ?_))
  rcases aj h_4 with⟨hc_5,h_4⟩|⟨hc_5,h_4⟩
  ·refine aC rfl hc_5 wz (af (af (af (aa (vB true) (aa (vB true) (ah ?_))))))
   obtain rfl:=ae h_4
   exact cu
  ·refine aC rfl hc_5 wz (aH (vS substr_2) wa rfl (aH (vS s_1) wa rfl (aH (vB (sEq substr_2 s_1)) wa rfl (aa (vB (sEq substr_2 s_1)) (aa (vB (sEq substr_2 s_1)) (ah ?_))))))
   obtain rfl:=ae h_4
   exact cu
 ·rintro ⟨⟩ _ sl_ H_ hp_ hq_
  refine aO _ hp_ hq_ ?_
  rcases aj hF with⟨hc_6,hF⟩|⟨hc_6,hF⟩
  ·refine aB rfl hc_6 (ai (aa (vI 0) (ah ?_)))
   obtain rfl:=ae hF
   exact ay (aJ [(vI 0)] ⟨rfl,trivial⟩)
  ·refine aA rfl hc_6 (ai (aa (vI (substr_2.size:Int)) (aa (vB ((substr_2.size:Int)==1)) (aa (vB ((substr_2.size:Int)==1)) (ah ?_)))))
   rcases aj hF with⟨hc_7,hF⟩|⟨hc_7,hF⟩
   ·refine aB rfl hc_7 (ai (aa (vS s_1) (aa (vS substr_2) ?_)))
    obtain ⟨b_8,hy_9,hF⟩:=bind_some hF
    refine kz un9 rfl rfl hy_9 wz ?_
    obtain ⟨r_10,hr_11,hF⟩:=bind_some hF
    refine aD (nC hr_11) rfl hb146 rfl rfl rfl rfl wz (aa (vI r_10) (ah ?_))
    obtain rfl:=ae hF
    exact ay (aJ [(vI r_10)] ⟨rfl,trivial⟩)
   ·refine aA rfl hc_7 (ai (aa (vI (substr_2.size:Int)) (aa (vS s_1) (mX un9 rfl wz (aa (vB (decide ((substr_2.size:Int)>=(s_1.size:Int)))) (aa (vB (decide ((substr_2.size:Int)>=(s_1.size:Int)))) (ah ?_)))))))
    rcases aj hF with⟨hc_12,hF⟩|⟨hc_12,hF⟩
    ·refine aB rfl hc_12 (ai (aa (vI (-1)) (ah ?_)))
     obtain rfl:=ae hF
     exact ay (aJ [(vI (-1))] ⟨rfl,trivial⟩)
    ·refine aA rfl hc_12 (ai (aa (vI (substr_2.size:Int)) ?_))
     cases hF
theorem Aa {s_1:ByteArray} {substr_2:ByteArray} {r:Int} (hF:strings_Index s_1 substr_2=some r) :
  FnM Tryz.prog 136 [(vS s_1),(vS substr_2)] [] (vI r) []:=by
 refine FnM.of_wH ⟨Tryz.prog,8,[],[]⟩ rfl Tryz.func136 rfl rfl (lb_ rfl) (by kernel_rfl) ?_
 unfold strings_Index at hF
 refine ai (aa (vI 0) (ah (ai (aa (vS s_1) (aa (vS substr_2) ?_)))))
 obtain ⟨r_3,hr_4,hF⟩:=bind_some hF
 refine aD (pO hr_4) rfl hb142 rfl rfl rfl rfl wz (aa (vI r_3) (ah ?_))
 obtain rfl:=ae hF
 exact ay (aJ [(vI r_3)] ⟨rfl,trivial⟩)
theorem xK {s_1:ByteArray} {substr_2:ByteArray} {r:Bool} (hF:strings_Contains s_1 substr_2=some r) :
  FnM Tryz.prog 122 [(vS s_1),(vS substr_2)] [] (vB r) []:=by
 refine FnM.of_wH ⟨Tryz.prog,9,[],[]⟩ rfl Tryz.func122 rfl rfl (lb_ rfl) (by kernel_rfl) ?_
 unfold strings_Contains at hF
 refine ai (aa (vB false) (ah (ai (aa (vS s_1) (aa (vS substr_2) ?_)))))
 obtain ⟨r_3,hr_4,hF⟩:=bind_some hF
 refine aD (Aa hr_4) rfl hb136 rfl rfl rfl rfl wz (aa (vB (decide (r_3>=0))) (aa (vB (decide (r_3>=0))) (ah ?_)))
 obtain rfl:=ae hF
 exact ay (aJ [(vB (decide (r_3>=0)))] ⟨rfl,trivial⟩)
theorem CV {s_1:ByteArray} {r:Bool} (hF:o9 s_1=some r) :
  FnM Tryz.prog 104 [(vS s_1)] [] (vB r) []:=by
 refine FnM.of_wH ⟨Tryz.prog,33,[],[]⟩ rfl Tryz.func104 rfl rfl (lb_ rfl) (by kernel_rfl) ?_
 unfold o9 at hF
 refine ai (aa (vB false) (ah (ak (ai (aa (vI 0) (ah ?_))))))
 obtain ⟨o_10,hj_11,hF⟩:=bind_some hF
 obtain ⟨nq_31,hj_11⟩:=dz hj_11
 refine fo (λ(s_7:Int)=>[(0,(vS s_1))]) (λ(s_7:Int)=>[]) (λ(k_2:Nat)=>(λ(s_7:Int)=>[(0,(vS s_1)),(3,(vI s_7))])) (λs=>nK s_1 s) o_10 nq_31 0 hj_11 rfl (aK rfl) ?_ ?_
 ·rintro ⟨k_2,s_7⟩ hL_9
  dsimp only at hL_9
  cases k_2 with
  | zero=>cases hL_9
  | succ k_2 =>
   obtain ⟨c_,hc_8,hL_9⟩:=bind_some hL_9
   unfold nK at hc_8
   refine ak (ai (aa (vI s_7) (aa (vS s_1) (mX un9 rfl wz (aa (vB (decide (s_7<(s_1.size:Int)))) (ah ?_))))))
   rcases aj hc_8 with⟨hc_12,hc_8⟩|⟨hc_12,hc_8⟩
   ·refine aB rfl hc_12 (ax (ak (aN (ak ?_))))
    obtain ⟨v_13,h_14,hc_8⟩:=bind_some hc_8
    refine aP [(0,(vS s_1)),(3,(vI s_7)),(19,(vB v_13))] [] ?_ ?_
    ·refine au (aa (vS s_1) (aa (vI s_7) ?_))
     obtain ⟨b_15,hy_16,h_14⟩:=bind_some h_14
     refine kz un9 rfl rfl hy_16 wz (aa (vB (decide ((b_15.toNat:Int)<32))) ?_)
     rcases aj h_14 with⟨hc_17,h_14⟩|⟨hc_17,h_14⟩
     ·refine aC rfl hc_17 wz (af (af (af (af (aa (vB true) (ah ?_))))))
      obtain rfl:=ae h_14
      exact cu
     ·refine aC rfl hc_17 wz (aH (vS s_1) wa rfl (aH (vI s_7) wa rfl ?_))
      obtain ⟨b_18,hy_19,h_14⟩:=bind_some h_14
      refine kz un9 rfl rfl hy_19 wa (aH (vB ((b_18.toNat:Int)==127)) wa rfl (aa (vB ((b_18.toNat:Int)==127)) (ah ?_)))
      obtain rfl:=ae h_14
      exact cu
    ·rintro ⟨⟩ _ sl_ H_ hp_ hq_
     refine aO _ hp_ hq_ ?_
     rcases aj hc_8 with⟨hc_20,hc_8⟩|⟨hc_20,hc_8⟩
     ·refine aB rfl hc_20 (ai (aa (vB false) (ah ?_)))
      obtain rfl:=ae hc_8
      obtain rfl:=ae hL_9
      obtain rfl:=ae hF
      exact ay (aJ [(vB false)] ⟨rfl,trivial⟩)
     ·refine aA rfl hc_20 (ax (au (aa (vI s_7) (aa (vI (w64 (s_7+1))) (aa (vI (w64 (s_7+1))) (ah ?_))))))
      obtain rfl:=ae hc_8
      exact aY (k_2,(w64 (s_7+1))) hL_9 (ls_ _) rfl (aK rfl)
   ·refine aA rfl hc_12 (aX ?_)
    obtain rfl:=ae hc_8
    obtain rfl:=ae hL_9
    exact aU (s_7) rfl rfl (aK rfl)
 ·rintro s_7 ho_ sl_ H_ hp_ hq_
  subst ho_
  refine aO _ hp_ hq_ (ak ?_)
  obtain ⟨v_21,h_22,hF⟩:=bind_some hF
  refine aP [(2,(vB v_21))] [] ?_ ?_
  ·refine au (aa (vS s_1) ?_)
   obtain ⟨r_23,hr_24,h_22⟩:=bind_some h_22
   refine aD (qF hr_24) rfl hb120 rfl rfl rfl rfl wz ?_
   rcases aj h_22 with⟨hc_25,h_22⟩|⟨hc_25,h_22⟩
   ·refine aC rfl hc_25 wz (aH (vS s_1) wa rfl ?_)
    obtain ⟨r_26,hr_27,h_22⟩:=bind_some h_22
    refine aD (Bp hr_27) rfl hb121 rfl rfl rfl rfl wa (aH (vS s_1) wa rfl (aH (vB (sEq r_26 s_1)) wa rfl (aa (vB (sEq r_26 s_1)) ?_)))
    rcases aj h_22 with⟨hc_28,h_22⟩|⟨hc_28,h_22⟩
    ·refine aC rfl hc_28 wz (aH (vS s_1) wa rfl ?_)
     obtain ⟨r_29,hr_30,h_22⟩:=bind_some h_22
     refine aD (xK hr_30) rfl hb122 rfl rfl rfl rfl wa (aH (vB (!r_29)) wa rfl (aa (vB (!r_29)) (aa (vB (!r_29)) (ah ?_))))
     obtain rfl:=ae h_22
     exact cu
    ·refine aC rfl hc_28 wz (af (af (af (aa (vB false) (aa (vB false) (ah ?_))))))
     obtain rfl:=ae h_22
     exact cu
   ·refine aC rfl hc_25 wz (af (af (af (af (aa (vB false) (aa (vB false) (af (af (af (aa (vB false) (aa (vB false) (ah ?_))))))))))))
    obtain rfl:=ae h_22
    exact cu
  ·rintro ⟨⟩ _ sl_ H_ hp_ hq_
   refine aO _ hp_ hq_ ?_
   obtain rfl:=ae hF
   exact ay (aJ [(vB v_21)] ⟨rfl,trivial⟩)
theorem xN {a_1:Alert} {r:Int} (hF:jI a_1=some r) :
  FnM Tryz.prog 83 [(.d (.agg (Alert.enc a_1)))] [] (vI r) []:=by
 refine FnM.of_wH ⟨Tryz.prog,92,[],[]⟩ rfl Tryz.func83 rfl rfl (lb_ rfl) (by kernel_rfl) ?_
 unfold jI at hF
 refine ai (gQ 0 (.inl rfl) (Alert.v a_1) rfl rfl wz (λn_2=>aa (vI 0) (ah (ak (ak ?_)))))
 obtain ⟨v_3,h_4,hF⟩:=bind_some hF
 refine aP [(1,(.ref n_2 0 0)),(17,(vB v_3))] [(n_2,some (.cells 9 (Alert.v a_1)))] ?_ ?_
 ·refine au (aG Aj rfl 0 rfl wz (aF 0 0 il ft sz9 ag9 rfl rfl (vS a_1.Id) rfl wz ?_))
  obtain ⟨r_5,hr_6,h_4⟩:=bind_some h_4
  refine aD (fw hr_6) rfl BI rfl rfl rfl rfl wz (aa (vB (!r_5)) ?_)
  rcases aj h_4 with⟨hc_7,h_4⟩|⟨hc_7,h_4⟩
  ·refine aC rfl hc_7 wz (af (af (af (af (aa (vB true) (ah ?_))))))
   obtain rfl:=ae h_4
   exact cu
  ·refine aC rfl hc_7 wz (aG pl73_1 rfl 1 rfl wa (aF 0 0 il ft sz9 ag9 rfl rfl (vS a_1.Sender) rfl wa ?_))
   obtain ⟨r_8,hr_9,h_4⟩:=bind_some h_4
   refine aD (fw hr_9) rfl BI rfl rfl rfl rfl wa (aH (vB (!r_8)) wa rfl (aa (vB (!r_8)) (ah ?_)))
   obtain rfl:=ae h_4
   exact cu
 ·rintro ⟨⟩ _ sl_ H_ hp_ hq_
  refine aO _ hp_ hq_ ?_
  rcases aj hF with⟨hc_10,hF⟩|⟨hc_10,hF⟩
  ·refine aB rfl hc_10 (ai (aa (vI 5) (ah ?_)))
   obtain rfl:=ae hF
   exact ay (aJ [(vI 5)] ⟨rfl,trivial⟩)
  ·refine aA rfl hc_10 (ax (ak (ai (aG JG rfl 2 rfl wz (aF 0 0 il ft sz3 ag3 rfl rfl (vI a_1.Kind) rfl wz ?_)))))
   obtain ⟨r_11,hr_12,hF⟩:=bind_some hF
   refine aD (bu hr_12) rfl qG rfl rfl rfl rfl wz (ah ?_)
   rcases aj hF with⟨hc_13,hF⟩|⟨hc_13,hF⟩
   ·refine aB rfl hc_13 (ai (aa (vI 4) (ah ?_)))
    obtain rfl:=ae hF
    exact ay (aJ [(vI 4)] ⟨rfl,trivial⟩)
   ·refine aA rfl hc_13 (ax (ak (ai (aF 0 0 il ft BD Gs rfl rfl (.d (.agg (Alert.enc a_1))) rfl wz ?_))))
    obtain ⟨r_14,hr_15,hF⟩:=bind_some hF
    refine aD (yL hr_15) rfl hb103 rfl rfl rfl rfl wz (aa (vI r_14) (ah (ai (aa (vI r_14) (aa (vB (r_14 != 0)) (ah ?_))))))
    rcases aj hF with⟨hc_16,hF⟩|⟨hc_16,hF⟩
    ·refine aB rfl hc_16 (ai (aa (vI r_14) (aa (vI r_14) (ah ?_))))
     obtain rfl:=ae hF
     exact ay (aJ [(vI r_14)] ⟨rfl,trivial⟩)
    ·refine aA rfl hc_16 (ax (ak (ak ?_)))
     obtain ⟨v_17,h_18,hF⟩:=bind_some hF
     refine aP [(1,(.ref n_2 0 0)),(45,(vB v_17))] [(n_2,some (.cells 9 (Alert.v a_1)))] ?_ ?_
     ·refine au (aG Du rfl 4 rfl wz (aF 0 0 il ft sz3 ag3 rfl rfl (vI a_1.At) rfl wz ?_))
      obtain ⟨r_19,hr_20,h_18⟩:=bind_some h_18
      refine aD (gY hr_20) rfl Jw rfl rfl rfl rfl wz (aa (vB (!r_19)) ?_)
      rcases aj h_18 with⟨hc_21,h_18⟩|⟨hc_21,h_18⟩
      ·refine aC rfl hc_21 wz (af (af (af (af (af (af (af (af (af (aa (vB true) (aa (vB true) (af (af (af (aa (vB true) (ah ?_))))))))))))))))
       obtain rfl:=ae h_18
       exact cu
      ·refine aC rfl hc_21 wz (aG pl73_5 rfl 5 rfl wa (aF 0 0 il ft sz3 ag3 rfl rfl (vI a_1.Until) rfl wa (aG Du rfl 4 rfl wa (aF 0 0 il ft sz3 ag3 rfl rfl (vI a_1.At) rfl wa (aH (vI (w64 (a_1.At+1))) wa rfl (aG Du rfl 4 rfl wa (aF 0 0 il ft sz3 ag3 rfl rfl (vI a_1.At) rfl wa (aH (vI (w64 (a_1.At+2592000000))) wa rfl ?_))))))))
       obtain ⟨r_22,hr_23,h_18⟩:=bind_some h_18
       refine aD (bu hr_23) rfl qG rfl rfl rfl rfl wa (aa (vB r_22) ?_)
       rcases aj h_18 with⟨hc_24,h_18⟩|⟨hc_24,h_18⟩
       ·refine aC rfl hc_24 wz (af (af (af (aa (vB true) (ah ?_)))))
        obtain rfl:=ae h_18
        exact cu
       ·refine aC rfl hc_24 wz (aG pl73_6 rfl 6 rfl wa (aF 0 0 il ft sz3 ag3 rfl rfl (vI a_1.Weight) rfl wa ?_))
        obtain ⟨r_25,hr_26,h_18⟩:=bind_some h_18
        refine aD (bu hr_26) rfl qG rfl rfl rfl rfl wa (aa (vB r_25) (ah ?_))
        obtain rfl:=ae h_18
        exact cu
     ·rintro ⟨⟩ _ sl_ H_ hp_ hq_
      refine aO _ hp_ hq_ ?_
      rcases aj hF with⟨hc_27,hF⟩|⟨hc_27,hF⟩
      ·refine aB rfl hc_27 (ai (aa (vI 1) (ah ?_)))
       obtain rfl:=ae hF
       exact ay (aJ [(vI 1)] ⟨rfl,trivial⟩)
      ·refine aA rfl hc_27 (ax (ak (ai (aG Gl rfl 7 rfl wz (aF 0 0 il ft Mo Ls rfl rfl (vL Rect.enc a_1.Areas) rfl wz (bW zT rfl wz (aa (vB (decide ((a_1.Areas.length:Int)>20))) (ah ?_))))))))
       rcases aj hF with⟨hc_28,hF⟩|⟨hc_28,hF⟩
       ·refine aB rfl hc_28 (ai (aa (vI 2) (ah ?_)))
        obtain rfl:=ae hF
        exact ay (aJ [(vI 2)] ⟨rfl,trivial⟩)
       ·refine aA rfl hc_28 (ax (ak (ai (aG Gl rfl 7 rfl wz (aF 0 0 il ft Mo Ls rfl rfl (vL Rect.enc a_1.Areas) rfl wz (bW zT rfl wz (aa (vI 0) (ah ?_))))))))
        obtain ⟨o_37,hj_38,hF⟩:=bind_some hF
        obtain ⟨hn_33,hj_38⟩:=bv hj_38
        refine di (λ(s_34:Unit)=>[(1,(.ref n_2 0 0))]) (λ(s_34:Unit)=>[(n_2,some (.cells 9 (Alert.v a_1)))]) (λ(k_29:Nat)=>(λ(s_34:Unit)=>[(1,(.ref n_2 0 0)),(51,(vL Rect.enc a_1.Areas)),(52,(vI (a_1.Areas.length:Int))),(53,(vI (k_29:Int)))])) (λk x s=>jE k x s) o_37 a_1.Areas () hj_38 rfl (aK rfl) ?_ ?_
        ·rintro ⟨k_29,l_30,s_34⟩ ⟨hL_36,hD_32⟩
         dsimp only at hL_36 hD_32
         cases l_30 with
         | nil =>
          obtain rfl:=ae hL_36
          refine ai (aa (vB (decide ((k_29:Int)<(a_1.Areas.length:Int)))) (ah ?_))
          refine ak (aA rfl (drop_nil hD_32) (aX ?_))
          exact aU (s_34) rfl rfl (aK rfl)
         | cons x_31 l_30 =>
          obtain ⟨c_,hc_35,hL_36⟩:=bind_some hL_36
          refine ai (aa (vB (decide ((k_29:Int)<(a_1.Areas.length:Int)))) (ah ?_))
          refine ak (aB rfl (bD hD_32) (ax ?_))
          unfold jE at hc_35
          refine ak (aN (ai (dR FB rfl rfl (bR hD_32) rfl wz (bQ wQ G9 rfl (.d (.agg (Rect.enc x_31))) rfl wz (dI 0 (.inl rfl) z60 rfl wz (λn_39=>fP 0 il ft 1 wQ rfl rfl (Rect.v x_31) rfl wz (ah (ai (aF 0 1 il ft wQ G9 rfl rfl (.d (.agg (Rect.enc x_31))) rfl wz ?_)))))))))
          obtain ⟨r_40,hr_41,hc_35⟩:=bind_some hc_35
          refine aD (qw hr_41) rfl hb56 rfl rfl rfl rfl wz (aa (vI r_40) (ah (ai (aa (vI r_40) (aa (vB (r_40 != 0)) (ah ?_))))))
          rcases aj hc_35 with⟨hc_42,hc_35⟩|⟨hc_42,hc_35⟩
          ·refine aB rfl hc_42 (ai (aa (vI r_40) (aa (vI r_40) (ah ?_))))
           obtain rfl:=ae hc_35
           obtain rfl:=ae hL_36
           obtain rfl:=ae hF
           exact ay (aJ [(vI r_40)] ⟨rfl,trivial⟩)
          ·refine aA rfl hc_42 (ax (au (eY (bH hD_32 hn_33) wz rfl (aa (vI ((k_29+1:Nat):Int)) (ah ?_)))))
           obtain rfl:=ae hc_35
           exact aY (k_29+1,l_30,()) ⟨hL_36,aZ hD_32⟩ (ls_ _) rfl (aK rfl)
        ·rintro s_34 ho_ sl_ H_ hp_ hq_
         subst ho_
         refine aO _ hp_ hq_ (ai (aG JG rfl 2 rfl wz (aF 0 0 il ft sz3 ag3 rfl rfl (vI a_1.Kind) rfl wz (aa (vB (a_1.Kind==3)) (aa (vB (a_1.Kind==3)) (ah (ak (aN (ai (aa (vB (a_1.Kind==3)) (aG Gl rfl 7 rfl wz (aF 0 0 il ft Mo Ls rfl rfl (vL Rect.enc a_1.Areas) rfl wz (bW zT rfl wz (aa (vB ((a_1.Areas.length:Int)==0)) (Nj un4 rfl rfl wz (aa (vB (!((a_1.Kind==3)==((a_1.Areas.length:Int)==0)))) (ah ?_)))))))))))))))))
         rcases aj hF with⟨hc_43,hF⟩|⟨hc_43,hF⟩
         ·refine aB rfl hc_43 (ai (aa (vI 3) (ah ?_)))
          obtain rfl:=ae hF
          exact ay (aJ [(vI 3)] ⟨rfl,trivial⟩)
         ·refine aA rfl hc_43 (ai (aG JA rfl 8 rfl wz (aF 0 0 il ft sz9 ag9 rfl rfl (vS a_1.Text) rfl wz (mX un9 rfl wz (aa (vB (decide ((a_1.Text.size:Int)>500))) (aa (vB (decide ((a_1.Text.size:Int)>500))) (ah ?_)))))))
          rcases aj hF with⟨hc_44,hF⟩|⟨hc_44,hF⟩
          ·refine aB rfl hc_44 (ai (aa (vI 2) (ah ?_)))
           obtain rfl:=ae hF
           exact ay (aJ [(vI 2)] ⟨rfl,trivial⟩)
          ·refine aA rfl hc_44 (ak ?_)
           obtain ⟨v_45,h_46,hF⟩:=bind_some hF
           refine aP [(78,(vB v_45))] [(n_2,some (.cells 9 (Alert.v a_1)))] ?_ ?_
           ·refine au (aG JA rfl 8 rfl wz (aF 0 0 il ft sz9 ag9 rfl rfl (vS a_1.Text) rfl wz ?_))
            obtain ⟨r_47,hr_48,h_46⟩:=bind_some h_46
            refine aD (CV hr_48) rfl hb104 rfl rfl rfl rfl wz (aa (vB (!r_47)) ?_)
            rcases aj h_46 with⟨hc_49,h_46⟩|⟨hc_49,h_46⟩
            ·refine aC rfl hc_49 wz (af (af (af (af (bS (wn rfl rfl) (bS (wn rfl rfl) (af (aa (vB true) (aa (vB true) (ah ?_))))))))))
             obtain rfl:=ae h_46
             exact cu
            ·refine aC rfl hc_49 wz (aG JA rfl 8 rfl wa (aF 0 0 il ft sz9 ag9 rfl rfl (vS a_1.Text) rfl wa (aH (vB (sEq a_1.Text (⟨#[]⟩:ByteArray))) wa rfl ?_)))
             rcases aj h_46 with⟨hc_50,h_46⟩|⟨hc_50,h_46⟩
             ·refine aC rfl hc_50 wa (aH (vB (a_1.Kind==3)) wa rfl (aH (vB (!(a_1.Kind==3))) wa rfl (aH (vB (!(a_1.Kind==3))) wa rfl (aa (vB (!(a_1.Kind==3))) (aa (vB (!(a_1.Kind==3))) (ah ?_))))))
              obtain rfl:=ae h_46
              exact cu
             ·refine aC rfl hc_50 wa (af (af (aH (vB false) wa rfl (aa (vB false) (aa (vB false) (ah ?_))))))
              obtain rfl:=ae h_46
              exact cu
           ·rintro ⟨⟩ _ sl_ H_ hp_ hq_
            refine aO _ hp_ hq_ ?_
            rcases aj hF with⟨hc_51,hF⟩|⟨hc_51,hF⟩
            ·refine aB rfl hc_51 (ai (aa (vI 3) (ah ?_)))
             obtain rfl:=ae hF
             exact ay (aJ [(vI 3)] ⟨rfl,trivial⟩)
            ·refine aA rfl hc_51 (ax (ai (aa (vI 0) (ah ?_))))
             obtain rfl:=ae hF
             exact ay (aJ [(vI 0)] ⟨rfl,trivial⟩)
theorem Am {a_1:Alert} {b_2:Alert} {r:Int} (hF:oP a_1 b_2=some r) :
  FnM Tryz.prog 84 [(.d (.agg (Alert.enc a_1))),(.d (.agg (Alert.enc b_2)))] [] (vI r) []:=by
 refine FnM.of_wH ⟨Tryz.prog,17,[],[]⟩ rfl Tryz.func84 rfl rfl (lb_ rfl) (by kernel_rfl) ?_
 unfold oP at hF
 refine ai (gQ 0 (.inl rfl) (Alert.v a_1) rfl rfl wz (λn_3=>gQ 0 (.inl rfl) (Alert.v b_2) rfl rfl wz (λn_4=>aa (vI 0) (ah (ak (bC (aG Du rfl 4 rfl wz (aF 1 0 (.inr (by kernel_rfl)) (λ_ _ ag=>trivial) sz3 ag3 rfl rfl (vI a_1.At) rfl wz (aG Du rfl 4 rfl wz (aF 3 1 (.inr (by kernel_rfl)) (λ_ _ ag=>⟨.inl ⟨rfl,rfl⟩,trivial⟩) sz3 ag3 rfl rfl (vI b_2.At) rfl wz ?_))))))))))
 obtain ⟨r_5,hr_6,hF⟩:=bind_some hF
 refine aD (qY hr_6) rfl hb102 rfl rfl rfl rfl wz (aG Aj rfl 0 rfl wz (aF 6 0 (.inr (by kernel_rfl)) (λ_ _ ag=>⟨.inl ⟨rfl,rfl⟩,⟨.inl ⟨rfl,rfl⟩,trivial⟩⟩) sz9 ag9 rfl rfl (vS a_1.Id) rfl wz (aG Aj rfl 0 rfl wz (aF 8 1 (.inr (by kernel_rfl)) (λ_ _ ag=>⟨.inl ⟨rfl,rfl⟩,⟨.inl ⟨rfl,rfl⟩,⟨.inl ⟨rfl,rfl⟩,trivial⟩⟩⟩) sz9 ag9 rfl rfl (vS b_2.Id) rfl wz ?_))))
 obtain ⟨r_7,hr_8,hF⟩:=bind_some hF
 refine aD (qU hr_8) rfl hb101 rfl rfl rfl rfl wz (eZ (([r_5,r_7]:List Int).map eI) ik AA rfl rfl rfl rfl rfl wz ?_)
 obtain ⟨r_9,hr_10,hF⟩:=bind_some hF
 refine aD (xQ hr_10) rfl hb100 rfl rfl rfl rfl wz (aa (vI r_9) (ah ?_))
 obtain rfl:=ae hF
 exact ay (aJ [(vI r_9)] ⟨rfl,trivial⟩)
theorem wO {l_1:(List Alert)} {r:Int} (hF:ji l_1=some r) :
  FnM Tryz.prog 69 [(vL Alert.enc l_1)] [] (vI r) []:=by
 refine FnM.of_wH ⟨Tryz.prog,52,[],[]⟩ rfl Tryz.func69 rfl rfl (lb_ rfl) (by kernel_rfl) ?_
 unfold ji at hF
 refine ai (aa (vI 0) (ah (ak (ai (aa (vL Alert.enc l_1) (bW Ni rfl wz (aa (vB (decide ((l_1.length:Int)>300))) (ah ?_))))))))
 rcases aj hF with⟨hc_2,hF⟩|⟨hc_2,hF⟩
 ·refine aB rfl hc_2 (ai (aa (vI 2) (ah ?_)))
  obtain rfl:=ae hF
  exact ay (aJ [(vI 2)] ⟨rfl,trivial⟩)
 ·refine aA rfl hc_2 (ax (ak (ai (aa (vL Alert.enc l_1) (bW Ni rfl wz (aa (vI 0) (ah ?_)))))))
  obtain ⟨o_11,hj_12,hF⟩:=bind_some hF
  obtain ⟨hn_7,hj_12⟩:=bv hj_12
  refine di (λ(s_8:Unit)=>[(0,(vL Alert.enc l_1))]) (λ(s_8:Unit)=>[]) (λ(k_3:Nat)=>(λ(s_8:Unit)=>[(0,(vL Alert.enc l_1)),(12,(vL Alert.enc l_1)),(13,(vI (l_1.length:Int))),(14,(vI (k_3:Int)))])) (λk x s=>gD l_1 k x s) o_11 l_1 () hj_12 rfl (aK rfl) ?_ ?_
  ·rintro ⟨k_3,l_4,s_8⟩ ⟨hL_10,hD_6⟩
   dsimp only at hL_10 hD_6
   cases l_4 with
   | nil =>
    obtain rfl:=ae hL_10
    refine ai (aa (vB (decide ((k_3:Int)<(l_1.length:Int)))) (ah ?_))
    refine ak (aA rfl (drop_nil hD_6) (aX ?_))
    exact aU (s_8) rfl rfl (aK rfl)
   | cons x_5 l_4 =>
    obtain ⟨c_,hc_9,hL_10⟩:=bind_some hL_10
    refine ai (aa (vB (decide ((k_3:Int)<(l_1.length:Int)))) (ah ?_))
    refine ak (aB rfl (bD hD_6) (ax ?_))
    unfold gD at hc_9
    refine ak (aN (ai (aa (vI (k_3:Int)) (dR Kv rfl rfl (bR hD_6) rfl wz (bQ BD Gs rfl (.d (.agg (Alert.enc x_5))) rfl wz (dI 0 (.inl rfl) z73 rfl wz (λn_13=>aa (vI (k_3:Int)) (fP 0 il ft 0 BD rfl rfl (Alert.v x_5) rfl wz (ah (ak (ai (aF 0 0 il ft BD Gs rfl rfl (.d (.agg (Alert.enc x_5))) rfl wz ?_))))))))))))
    obtain ⟨r_14,hr_15,hc_9⟩:=bind_some hc_9
    refine aD (xN hr_15) rfl hb83 rfl rfl rfl rfl wz (aa (vI r_14) (ah (ai (aa (vI r_14) (aa (vB (r_14 != 0)) (ah ?_))))))
    rcases aj hc_9 with⟨hc_16,hc_9⟩|⟨hc_16,hc_9⟩
    ·refine aB rfl hc_16 (ai (aa (vI r_14) (aa (vI r_14) (ah ?_))))
     obtain rfl:=ae hc_9
     obtain rfl:=ae hL_10
     obtain rfl:=ae hF
     exact ay (aJ [(vI r_14)] ⟨rfl,trivial⟩)
    ·refine aA rfl hc_16 (ax (ak ?_))
     obtain ⟨v_17,h_18,hc_9⟩:=bind_some hc_9
     refine aP [(0,(vL Alert.enc l_1)),(12,(vL Alert.enc l_1)),(13,(vI (l_1.length:Int))),(14,(vI (k_3:Int))),(35,(vB v_17))] [(n_13,some (.cells 9 (Alert.v x_5)))] ?_ ?_
     ·refine bC (aa (vI (k_3:Int)) (aa (vB (decide ((k_3:Int)>0))) ?_))
      rcases aj h_18 with⟨hc_19,h_18⟩|⟨hc_19,h_18⟩
      ·refine aC rfl hc_19 wz (aH (vL Alert.enc l_1) wa rfl (aH (vI (k_3:Int)) wa rfl (aH (vI (w64 ((k_3:Int)-1))) wa rfl ?_)))
       obtain ⟨y_20,hy_21,h_18⟩:=bind_some h_18
       refine dR Kv rfl rfl hy_21 rfl wa (bQ BD Gs rfl (.d (.agg (Alert.enc y_20))) rfl wa (aF 8 0 (.inr (by kernel_rfl)) (λ_ _ ag=>trivial) BD Gs rfl rfl (.d (.agg (Alert.enc x_5))) rfl wa ?_))
       obtain ⟨r_22,hr_23,h_18⟩:=bind_some h_18
       refine aD (Am hr_23) rfl hb84 rfl rfl rfl rfl wa (aH (vB (decide (r_22>=0))) wa rfl (aa (vB (decide (r_22>=0))) (ah ?_)))
       obtain rfl:=ae h_18
       exact cu
      ·refine aC rfl hc_19 wz (af (af (af (af (af (af (af (af (aa (vB false) (ah ?_))))))))))
       obtain rfl:=ae h_18
       exact cu
     ·rintro ⟨⟩ _ sl_ H_ hp_ hq_
      refine aO _ hp_ hq_ ?_
      rcases aj hc_9 with⟨hc_24,hc_9⟩|⟨hc_24,hc_9⟩
      ·refine aB rfl hc_24 (ai (aa (vI 7) (ah ?_)))
       obtain rfl:=ae hc_9
       obtain rfl:=ae hL_10
       obtain rfl:=ae hF
       exact ay (aJ [(vI 7)] ⟨rfl,trivial⟩)
      ·refine aA rfl hc_24 (ax (au (eY (bH hD_6 hn_7) wz rfl (aa (vI ((k_3+1:Nat):Int)) (ah ?_)))))
       obtain rfl:=ae hc_9
       exact aY (k_3+1,l_4,()) ⟨hL_10,aZ hD_6⟩ (ls_ _) rfl (aK rfl)
  ·rintro s_8 ho_ sl_ H_ hp_ hq_
   subst ho_
   refine aO _ hp_ hq_ (ai (h_mkmap 0 (.inl rfl) wz (λn_25=>A9 (b':=some (bM D.str D.bool ([]:List (ByteArray×Bool)))) 0 rfl rfl (aa (.map n_25) (ah (ak (ai (aa (vL Alert.enc l_1) (bW Ni rfl wz (aa (vI 0) (ah ?_)))))))))))
   obtain ⟨o_34,hj_35,hF⟩:=bind_some hF
   obtain ⟨hn_30,hj_35⟩:=bv hj_35
   refine di (λ(s_31:(List (ByteArray×Bool)))=>[]) (λ(s_31:(List (ByteArray×Bool)))=>[(n_25,some (bM D.str D.bool s_31))]) (λ(k_26:Nat)=>(λ(s_31:(List (ByteArray×Bool)))=>[(6,(.map n_25)),(38,(vL Alert.enc l_1)),(39,(vI (l_1.length:Int))),(40,(vI (k_26:Int)))])) (λk x s=>jB k x s) o_34 l_1 ([]:List (ByteArray×Bool)) hj_35 rfl (aK rfl) ?_ ?_
   ·rintro ⟨k_26,l_27,s_31⟩ ⟨hL_33,hD_29⟩
    dsimp only at hL_33 hD_29
    cases l_27 with
    | nil =>
     obtain rfl:=ae hL_33
     refine ai (aa (vB (decide ((k_26:Int)<(l_1.length:Int)))) (ah ?_))
     refine ak (aA rfl (drop_nil hD_29) (aX ?_))
     exact aU (s_31) rfl rfl (aK rfl)
    | cons x_28 l_27 =>
     obtain ⟨c_,hc_32,hL_33⟩:=bind_some hL_33
     refine ai (aa (vB (decide ((k_26:Int)<(l_1.length:Int)))) (ah ?_))
     refine ak (aB rfl (bD hD_29) (ax ?_))
     unfold jB at hc_32
     refine ak (aN (ai (dR Kv rfl rfl (bR hD_29) rfl wz (bQ BD Gs rfl (.d (.agg (Alert.enc x_28))) rfl wz (dI 0 (.inl rfl) z73 rfl wz (λn_36=>fP 0 il ft 1 BD rfl rfl (Alert.v x_28) rfl wz (ah (ak (ai (aa (.map n_25) (aG Aj rfl 0 rfl wz (aF 0 1 il ft sz9 ag9 rfl rfl (vS x_28.Id) rfl wz (MV (eq:=eqS) (kD:=D.str) (vD:=D.bool) (es:=s_31) (k:=x_28.Id) (z:=false) 0 0 il ft (λ_ _=>rfl) mt145 (by kernel_rfl) (by kernel_rfl) rfl rfl rfl (vB ((JW eqS s_31 x_28.Id).getD false)) rfl wz (ah ?_))))))))))))))
     rcases aj hc_32 with⟨hc_37,hc_32⟩|⟨hc_37,hc_32⟩
     ·refine aB rfl hc_37 (ai (aa (vI 6) (ah ?_)))
      obtain rfl:=ae hc_32
      obtain rfl:=ae hL_33
      obtain rfl:=ae hF
      exact ay (aJ [(vI 6)] ⟨rfl,trivial⟩)
     ·refine aA rfl hc_37 (ax (au (aa (.map n_25) (aG Aj rfl 0 rfl wz (aF 0 1 il ft sz9 ag9 rfl rfl (vS x_28.Id) rfl wz (NY (eq:=eqS) (kD:=D.str) (vD:=D.bool) (es:=s_31) (k:=x_28.Id) (v:=true) 0 0 il ft (λ_ _=>rfl) mt145 (by kernel_rfl) rfl rfl rfl rfl wz (ah (au (eY (bH hD_29 hn_30) wz rfl (aa (vI ((k_26+1:Nat):Int)) (ah ?_)))))))))))
      obtain rfl:=ae hc_32
      exact aY (k_26+1,l_27,(Ng eqS s_31 x_28.Id true)) ⟨hL_33,aZ hD_29⟩ (ls_ _) rfl (aK rfl)
   ·rintro s_31 ho_ sl_ H_ hp_ hq_
    subst ho_
    refine aO _ hp_ hq_ (ai (aa (vI 0) (ah ?_)))
    obtain rfl:=ae hF
    exact ay (aJ [(vI 0)] ⟨rfl,trivial⟩)
theorem xE {l_1:(List Post)} {r:Int} (hF:jH l_1=some r) :
  FnM Tryz.prog 70 [(vL Post.enc l_1)] [] (vI r) []:=by
 refine FnM.of_wH ⟨Tryz.prog,44,[],[]⟩ rfl Tryz.func70 rfl rfl (lb_ rfl) (by kernel_rfl) ?_
 unfold jH at hF
 refine ai (aa (vI 0) (ah (ak (ai (aa (vL Post.enc l_1) (bW un102 rfl wz (aa (vB (decide ((l_1.length:Int)>500))) (ah ?_))))))))
 rcases aj hF with⟨hc_2,hF⟩|⟨hc_2,hF⟩
 ·refine aB rfl hc_2 (ai (aa (vI 2) (ah ?_)))
  obtain rfl:=ae hF
  exact ay (aJ [(vI 2)] ⟨rfl,trivial⟩)
 ·refine aA rfl hc_2 (ax (ak (ai (aa (vL Post.enc l_1) (bW un102 rfl wz (aa (vI 0) (ah ?_)))))))
  obtain ⟨o_11,hj_12,hF⟩:=bind_some hF
  obtain ⟨hn_7,hj_12⟩:=bv hj_12
  refine di (λ(s_8:Unit)=>[]) (λ(s_8:Unit)=>[]) (λ(k_3:Nat)=>(λ(s_8:Unit)=>[(0,(vL Post.enc l_1)),(8,(vL Post.enc l_1)),(9,(vI (l_1.length:Int))),(10,(vI (k_3:Int)))])) (λk x s=>ib l_1 k x s) o_11 l_1 () hj_12 rfl (aK rfl) ?_ ?_
  ·rintro ⟨k_3,l_4,s_8⟩ ⟨hL_10,hD_6⟩
   dsimp only at hL_10 hD_6
   cases l_4 with
   | nil =>
    obtain rfl:=ae hL_10
    refine ai (aa (vB (decide ((k_3:Int)<(l_1.length:Int)))) (ah ?_))
    refine ak (aA rfl (drop_nil hD_6) (aX ?_))
    exact aU (s_8) rfl rfl (aK rfl)
   | cons x_5 l_4 =>
    obtain ⟨c_,hc_9,hL_10⟩:=bind_some hL_10
    refine ai (aa (vB (decide ((k_3:Int)<(l_1.length:Int)))) (ah ?_))
    refine ak (aB rfl (bD hD_6) (ax ?_))
    unfold ib at hc_9
    refine ak (aN (ai (aa (vI (k_3:Int)) (dR NP rfl rfl (bR hD_6) rfl wz (bQ sz76 ag76 rfl (.d (.agg (Post.enc x_5))) rfl wz (dI 0 (.inl rfl) z76 rfl wz (λn_13=>aa (vI (k_3:Int)) (fP 0 il ft 0 sz76 rfl rfl (Post.v x_5) rfl wz (ah (aN (ai (aG JE rfl 0 rfl wz (aF 0 0 il ft sz9 ag9 rfl rfl (vS x_5.Player) rfl wz ?_)))))))))))))
    obtain ⟨r_14,hr_15,hc_9⟩:=bind_some hc_9
    refine aD (fw hr_15) rfl BI rfl rfl rfl rfl wz (aa (vB (!r_14)) (aa (vB (!r_14)) (ah ?_)))
    rcases aj hc_9 with⟨hc_16,hc_9⟩|⟨hc_16,hc_9⟩
    ·refine aB rfl hc_16 (ai (aa (vI 5) (ah ?_)))
     obtain rfl:=ae hc_9
     obtain rfl:=ae hL_10
     obtain rfl:=ae hF
     exact ay (aJ [(vI 5)] ⟨rfl,trivial⟩)
    ·refine aA rfl hc_16 (ak ?_)
     obtain ⟨v_17,h_18,hc_9⟩:=bind_some hc_9
     refine aP [(0,(vL Post.enc l_1)),(3,(vI (k_3:Int))),(4,(.ref n_13 0 0)),(8,(vL Post.enc l_1)),(9,(vI (l_1.length:Int))),(10,(vI (k_3:Int))),(20,(vB v_17))] [(n_13,some (.cells 3 (Post.v x_5)))] ?_ ?_
     ·refine au (aG JU rfl 1 rfl wz (aF 0 0 il ft sz3 ag3 rfl rfl (vI x_5.X) rfl wz ?_))
      obtain ⟨r_19,hr_20,h_18⟩:=bind_some h_18
      refine aD (bu hr_20) rfl qG rfl rfl rfl rfl wz ?_
      rcases aj h_18 with⟨hc_21,h_18⟩|⟨hc_21,h_18⟩
      ·refine aC rfl hc_21 wz (af (af (af (aa (vB true) (aa (vB true) (ah ?_))))))
       obtain rfl:=ae h_18
       exact cu
      ·refine aC rfl hc_21 wz (aG JI rfl 2 rfl wa (aF 0 0 il ft sz3 ag3 rfl rfl (vI x_5.Y) rfl wa ?_))
       obtain ⟨r_22,hr_23,h_18⟩:=bind_some h_18
       refine aD (bu hr_23) rfl qG rfl rfl rfl rfl wa (aa (vB r_22) (aa (vB r_22) (ah ?_)))
       obtain rfl:=ae h_18
       exact cu
     ·rintro ⟨⟩ _ sl_ H_ hp_ hq_
      refine aO _ hp_ hq_ ?_
      rcases aj hc_9 with⟨hc_24,hc_9⟩|⟨hc_24,hc_9⟩
      ·refine aB rfl hc_24 (ai (aa (vI 1) (ah ?_)))
       obtain rfl:=ae hc_9
       obtain rfl:=ae hL_10
       obtain rfl:=ae hF
       exact ay (aJ [(vI 1)] ⟨rfl,trivial⟩)
      ·refine aA rfl hc_24 (ak ?_)
       obtain ⟨v_25,h_26,hc_9⟩:=bind_some hc_9
       refine aP [(0,(vL Post.enc l_1)),(8,(vL Post.enc l_1)),(9,(vI (l_1.length:Int))),(10,(vI (k_3:Int))),(29,(vB v_25))] [(n_13,some (.cells 3 (Post.v x_5)))] ?_ ?_
       ·refine bC (aa (vI (k_3:Int)) (aa (vB (decide ((k_3:Int)>0))) ?_))
        rcases aj h_26 with⟨hc_27,h_26⟩|⟨hc_27,h_26⟩
        ·refine aC rfl hc_27 wz (aG JE rfl 0 rfl wa (aF 4 0 (.inr (by kernel_rfl)) (λ_ _ ag=>trivial) sz9 ag9 rfl rfl (vS x_5.Player) rfl wa (aH (vL Post.enc l_1) wa rfl (aH (vI (k_3:Int)) wa rfl (aH (vI (w64 ((k_3:Int)-1))) wa rfl ?_)))))
         obtain ⟨y_28,hy_29,h_26⟩:=bind_some h_26
         refine dR NP rfl rfl hy_29 rfl wa (qo JE rfl [.str y_28.Player,.int .i64 y_28.X,.int .i64 y_28.Y] rfl rfl wa (bQ sz9 ag9 rfl (vS y_28.Player) rfl wa (aH (vB (sLe x_5.Player y_28.Player)) wa rfl (aa (vB (sLe x_5.Player y_28.Player)) (aa (vB (sLe x_5.Player y_28.Player)) (ah ?_))))))
         obtain rfl:=ae h_26
         exact cu
        ·refine aC rfl hc_27 wz (af (af (af (af (af (af (af (af (af (aa (vB false) (aa (vB false) (ah ?_))))))))))))
         obtain rfl:=ae h_26
         exact cu
       ·rintro ⟨⟩ _ sl_ H_ hp_ hq_
        refine aO _ hp_ hq_ ?_
        rcases aj hc_9 with⟨hc_30,hc_9⟩|⟨hc_30,hc_9⟩
        ·refine aB rfl hc_30 (ai (aa (vI 7) (ah ?_)))
         obtain rfl:=ae hc_9
         obtain rfl:=ae hL_10
         obtain rfl:=ae hF
         exact ay (aJ [(vI 7)] ⟨rfl,trivial⟩)
        ·refine aA rfl hc_30 (ax (au (eY (bH hD_6 hn_7) wz rfl (aa (vI ((k_3+1:Nat):Int)) (ah ?_)))))
         obtain rfl:=ae hc_9
         exact aY (k_3+1,l_4,()) ⟨hL_10,aZ hD_6⟩ (ls_ _) rfl (aK rfl)
  ·rintro s_8 ho_ sl_ H_ hp_ hq_
   subst ho_
   refine aO _ hp_ hq_ (ai (aa (vI 0) (ah ?_)))
   obtain rfl:=ae hF
   exact ay (aJ [(vI 0)] ⟨rfl,trivial⟩)
theorem yQ {l_1:(List Alert)} {posts_2:(List Post)} {r:Int} (hF:kG l_1 posts_2=some r) :
  FnM Tryz.prog 48 [(vL Alert.enc l_1),(vL Post.enc posts_2)] [] (vI r) []:=by
 refine FnM.of_wH ⟨Tryz.prog,13,[],[]⟩ rfl Tryz.func48 rfl rfl (lb_ rfl) (by kernel_rfl) ?_
 unfold kG at hF
 refine ai (aa (vI 0) (ah (ak (ai (aa (vL Alert.enc l_1) ?_)))))
 obtain ⟨r_3,hr_4,hF⟩:=bind_some hF
 refine aD (wO hr_4) rfl hb69 rfl rfl rfl rfl wz (aa (vI r_3) (ah (ai (aa (vI r_3) (aa (vB (r_3 != 0)) (ah ?_))))))
 rcases aj hF with⟨hc_5,hF⟩|⟨hc_5,hF⟩
 ·refine aB rfl hc_5 (ai (aa (vI r_3) (aa (vI r_3) (ah ?_))))
  obtain rfl:=ae hF
  exact ay (aJ [(vI r_3)] ⟨rfl,trivial⟩)
 ·refine aA rfl hc_5 (ax (ai (aa (vL Post.enc posts_2) ?_)))
  obtain ⟨r_6,hr_7,hF⟩:=bind_some hF
  refine aD (xE hr_7) rfl hb70 rfl rfl rfl rfl wz (aa (vI r_6) (ah ?_))
  obtain rfl:=ae hF
  exact ay (aJ [(vI r_6)] ⟨rfl,trivial⟩)
theorem yM {r_1:Rect} {p_2:Post} {r:Bool} (hF:pR r_1 p_2=some r) :
  FnM Tryz.prog 72 [(.d (.agg (Rect.enc r_1))),(.ref (av 0) 0 0)] [(.cells 3 (Post.v p_2))] (vB r) [some (.cells 3 (Post.v p_2))]:=by
 refine FnM.of_wH ⟨Tryz.prog,36,[],[]⟩ rfl Tryz.func72 rfl rfl (lb_ rfl) (by kernel_rfl) ?_
 unfold pR at hF
 refine ai (gQ 0 (.inl rfl) (Rect.v r_1) rfl rfl wz (λn_3=>aa (vB false) (ah (ak ?_))))
 obtain ⟨v_4,h_5,hF⟩:=bind_some hF
 refine aP [(3,(vB v_4))] [((av 0),some (.cells 3 (Post.v p_2))),(n_3,some (.cells 4 (Rect.v r_1)))] ?_ ?_
 ·refine au (aG zW rfl 0 rfl wz (aF 0 1 il ft sz3 ag3 rfl rfl (vI r_1.X) rfl wz (aG JU rfl 1 rfl wz (aF 0 0 il ft sz3 ag3 rfl rfl (vI p_2.X) rfl wz (aa (vB (decide (r_1.X<=p_2.X))) ?_)))))
  rcases aj h_5 with⟨hc_6,h_5⟩|⟨hc_6,h_5⟩
  ·refine aC rfl hc_6 wz (aG JU rfl 1 rfl wa (aF 0 0 il ft sz3 ag3 rfl rfl (vI p_2.X) rfl wa (aG zW rfl 0 rfl wa (aF 0 1 il ft sz3 ag3 rfl rfl (vI r_1.X) rfl wa (aG Gz rfl 2 rfl wa (aF 0 1 il ft sz3 ag3 rfl rfl (vI r_1.W) rfl wa (aH (vI (w64 (r_1.X+r_1.W))) wa rfl (aH (vB (decide (p_2.X<(w64 (r_1.X+r_1.W))))) wa rfl (aa (vB (decide (p_2.X<(w64 (r_1.X+r_1.W))))) ?_)))))))))
   rcases aj h_5 with⟨hc_7,h_5⟩|⟨hc_7,h_5⟩
   ·refine aC rfl hc_7 wz (aG wD rfl 1 rfl wa (aF 0 1 il ft sz3 ag3 rfl rfl (vI r_1.Y) rfl wa (aG JI rfl 2 rfl wa (aF 0 0 il ft sz3 ag3 rfl rfl (vI p_2.Y) rfl wa (aH (vB (decide (r_1.Y<=p_2.Y))) wa rfl (aa (vB (decide (r_1.Y<=p_2.Y))) ?_))))))
    rcases aj h_5 with⟨hc_8,h_5⟩|⟨hc_8,h_5⟩
    ·refine aC rfl hc_8 wz (aG JI rfl 2 rfl wa (aF 0 0 il ft sz3 ag3 rfl rfl (vI p_2.Y) rfl wa (aG wD rfl 1 rfl wa (aF 0 1 il ft sz3 ag3 rfl rfl (vI r_1.Y) rfl wa (aG Ck rfl 3 rfl wa (aF 0 1 il ft sz3 ag3 rfl rfl (vI r_1.H) rfl wa (aH (vI (w64 (r_1.Y+r_1.H))) wa rfl (aH (vB (decide (p_2.Y<(w64 (r_1.Y+r_1.H))))) wa rfl (aa (vB (decide (p_2.Y<(w64 (r_1.Y+r_1.H))))) (aa (vB (decide (p_2.Y<(w64 (r_1.Y+r_1.H))))) (ah ?_)))))))))))
     obtain rfl:=ae h_5
     exact cu
    ·refine aC rfl hc_8 wz (af (af (af (af (af (af (af (af (aa (vB false) (aa (vB false) (ah ?_)))))))))))
     obtain rfl:=ae h_5
     exact cu
   ·refine aC rfl hc_7 wz (af (af (af (af (af (aa (vB false) (aa (vB false) (af (af (af (af (af (af (af (af (aa (vB false) (aa (vB false) (ah ?_))))))))))))))))))
    obtain rfl:=ae h_5
    exact cu
  ·refine aC rfl hc_6 wz (af (af (af (af (af (af (af (af (aa (vB false) (aa (vB false) (af (af (af (af (af (aa (vB false) (aa (vB false) (af (af (af (af (af (af ?_)))))))))))))))))))))))
   refine af (af (aa (vB false) (aa (vB false) (ah ?_))))
   obtain rfl:=ae h_5
   exact cu
 ·rintro ⟨⟩ _ sl_ H_ hp_ hq_
  refine aO _ hp_ hq_ ?_
  obtain rfl:=ae hF
  exact ay (FY (.inr rfl) [(vB v_4)] _ [0] [av 0] ⟨rfl,trivial⟩ (.cons (lS rfl rfl) (.nil)) (by kernel_rfl) ⟨(by kernel_rfl),trivial⟩ (by decide) (by kernel_rfl))
theorem lV {s_1:(List Rect)} {f_2:Rect->Option Bool} {r:Int} {gid:FuncId} {caps:List V} {Sin:List Box} (hfn:∀x0 r,f_2 x0=some r->FnM Tryz.prog gid ([(.d (.agg (Rect.enc x0)))]++caps) Sin (vB r) (Sin.map some)) (hbF:aI Tryz.prog gid=true) (hcapF:caps.flatMap frz=[]/\caps.map co0=caps) (hokF:okL Sin.length caps=true) (hsF:∀b∈Sin,b.ok Sin.length=true) (hmF:∀b∈Sin,b.mut=true) (hF:fD s_1 f_2=some r) :
  FnM Tryz.prog 85 [(vL Rect.enc s_1),(.fn gid caps)] Sin (vI r) (Sin.map some):=by
 refine FnM.of_wH ⟨Tryz.prog,19,[],[]⟩ rfl Tryz.func85 rfl rfl (lb_ rfl) (by kernel_rfl) ?_
 unfold fD at hF
 refine ai (aa (vI 0) (ah (ak (ai (aa (vL Rect.enc s_1) (bW zT rfl wz (aa (vI 0) (ah ?_))))))))
 obtain ⟨o_11,hj_12,hF⟩:=bind_some hF
 obtain ⟨hn_7,hj_12⟩:=bv hj_12
 refine di (λ(s_8:Unit)=>[]) (λ(s_8:Unit)=>(oh 0 Sin)) (λ(k_3:Nat)=>(λ(s_8:Unit)=>[(0,(vL Rect.enc s_1)),(1,(.fn gid caps)),(7,(vI (s_1.length:Int))),(8,(vI (k_3:Int)))])) (λk x s=>eF f_2 k x s) o_11 s_1 () hj_12 rfl (tL _) ?_ ?_
 ·rintro ⟨k_3,l_4,s_8⟩ ⟨hL_10,hD_6⟩
  dsimp only at hL_10 hD_6
  cases l_4 with
  | nil =>
   obtain rfl:=ae hL_10
   refine ai (aa (vB (decide ((k_3:Int)<(s_1.length:Int)))) (ah ?_))
   refine ak (aA rfl (drop_nil hD_6) (aX ?_))
   exact aU (s_8) rfl rfl (tL _)
  | cons x_5 l_4 =>
   obtain ⟨c_,hc_9,hL_10⟩:=bind_some hL_10
   refine ai (aa (vB (decide ((k_3:Int)<(s_1.length:Int)))) (ah ?_))
   refine ak (aB rfl (bD hD_6) (ax ?_))
   unfold eF at hc_9
   refine ak (aN (ai (aa (vI (k_3:Int)) (aa (vI (k_3:Int)) (ah (ai (aa (.fn gid caps) (aa (vL Rect.enc s_1) (aa (vI (k_3:Int)) (dR FB rfl rfl (bR hD_6) rfl wz (bQ wQ G9 rfl (.d (.agg (Rect.enc x_5))) rfl wz ?_)))))))))))
   obtain ⟨r_13,hr_14,hc_9⟩:=bind_some hc_9
   refine BR (hfn _ _ hr_14) rfl hbF rfl rfl hcapF hokF hsF hmF rfl wz rfl (ah ?_)
   rcases aj hc_9 with⟨hc_15,hc_9⟩|⟨hc_15,hc_9⟩
   ·refine aB rfl hc_15 (ai (aa (vI (k_3:Int)) (aa (vI (k_3:Int)) (ah ?_))))
    obtain rfl:=ae hc_9
    obtain rfl:=ae hL_10
    obtain rfl:=ae hF
    exact ay (LQ hsF (.inr rfl) [(vI (k_3:Int))] ⟨rfl,trivial⟩ rfl rfl rfl)
   ·refine aA rfl hc_15 (ax (au (eY (bH hD_6 hn_7) wz rfl (aa (vI ((k_3+1:Nat):Int)) (ah ?_)))))
    obtain rfl:=ae hc_9
    exact aY (k_3+1,l_4,()) ⟨hL_10,aZ hD_6⟩ (ls_ _) rfl (tL _)
 ·rintro s_8 ho_ sl_ H_ hp_ hq_
  subst ho_
  refine aO _ hp_ hq_ (ai (aa (vI (-1)) (ah ?_)))
  obtain rfl:=ae hF
  exact ay (LQ hsF (.inr rfl) [(vI (-1))] ⟨rfl,trivial⟩ rfl rfl rfl)
theorem kR {s_1:(List Rect)} {f_2:Rect->Option Bool} {r:Bool} {gid:FuncId} {caps:List V} {Sin:List Box} (hfn:∀x0 r,f_2 x0=some r->FnM Tryz.prog gid ([(.d (.agg (Rect.enc x0)))]++caps) Sin (vB r) (Sin.map some)) (hbF:aI Tryz.prog gid=true) (hcapF:caps.flatMap frz=[]/\caps.map co0=caps) (hokF:okL Sin.length caps=true) (hsF:∀b∈Sin,b.ok Sin.length=true) (hmF:∀b∈Sin,b.mut=true) (hF:eB s_1 f_2=some r) :
  FnM Tryz.prog 71 [(vL Rect.enc s_1),(.fn gid caps)] Sin (vB r) (Sin.map some):=by
 refine FnM.of_wH ⟨Tryz.prog,9,[],[]⟩ rfl Tryz.func71 rfl rfl (lb_ rfl) (by kernel_rfl) ?_
 unfold eB at hF
 refine ai (aa (vB false) (ah (ai (aa (vL Rect.enc s_1) (aa (.fn gid caps) ?_)))))
 obtain ⟨r_3,hr_4,hF⟩:=bind_some hF
 refine BR (lV (gid:=gid) (caps:=caps) (Sin:=Sin) hfn hbF hcapF hokF hsF hmF hr_4) rfl hb85 rfl rfl ⟨rfl,rfl⟩ (by simp [okL,okV,hokF]) hsF hmF rfl wz rfl (aa (vB (decide (r_3>=0))) (aa (vB (decide (r_3>=0))) (ah ?_)))
 obtain rfl:=ae hF
 exact ay (LQ hsF (.inr rfl) [(vB (decide (r_3>=0)))] ⟨rfl,trivial⟩ rfl rfl rfl)
theorem Ar {a_1:Alert} {p_2:Post} {r:Bool} (hF:oN a_1 p_2=some r) :
  FnM Tryz.prog 49 [(.d (.agg (Alert.enc a_1))),(.d (.agg (Post.enc p_2)))] [] (vB r) []:=by
 refine FnM.of_wH ⟨Tryz.prog,9,[],[]⟩ rfl Tryz.func49 rfl rfl (lb_ rfl) (by kernel_rfl) ?_
 unfold oN at hF
 refine ai (gQ 0 (.inl rfl) (Alert.v a_1) rfl rfl wz (λn_3=>gQ 0 (.inl rfl) (Post.v p_2) rfl rfl wz (λn_4=>aa (vB false) (ah (ai (aG Gl rfl 7 rfl wz (aF 0 0 il ft Mo Ls rfl rfl (vL Rect.enc a_1.Areas) rfl wz (aa (.fn 72 [(.ref n_4 0 0)]) ?_))))))))
 obtain ⟨r_5,hr_6,hF⟩:=bind_some hF
 refine gz 0 [1] il ft (kR (gid:=72) (caps:=[.ref (av 0) 0 0]) (Sin:=[(.cells 3 (Post.v p_2))]) (λ_ _ h_=>yM h_) hb72 ⟨rfl,rfl⟩ (by kernel_rfl) (Nz (by kernel_rfl)) (KL (by kernel_rfl)) hr_6) rfl hb71 rfl (by kernel_rfl) (by kernel_rfl) (by kernel_rfl) (by kernel_rfl) (by kernel_rfl) (by kernel_rfl) (by kernel_rfl) (by decide) (by kernel_rfl) wz (vB r_5) (by kernel_rfl) ([(n_3,some (.cells 9 (Alert.v a_1))),(n_4,some (.cells 3 (Post.v p_2)))]:Hp) (by kernel_rfl) (aa (vB r_5) (ah ?_))
 obtain rfl:=ae hF
 exact ay (aJ [(vB r_5)] ⟨rfl,trivial⟩)
theorem Ay {a_1:Alert} {p_2:Post} {r:Bool×Int} (hF:mq a_1 p_2=some r) :
  FnM Tryz.prog 27 [(.d (.agg (Alert.enc a_1))),(.d (.agg (Post.enc p_2)))] [] (.tup [(vB r.1),(vI r.2)]) []:=by
 refine FnM.of_wH ⟨Tryz.prog,18,[],[]⟩ rfl Tryz.func27 rfl rfl (lb_ rfl) (by kernel_rfl) ?_
 unfold mq at hF
 refine ai (gQ 0 (.inl rfl) (Alert.v a_1) rfl rfl wz (λn_3=>gQ 0 (.inl rfl) (Post.v p_2) rfl rfl wz (λn_4=>aa (vB false) (aa (vI 0) (ah (ak (ai (aF 0 0 il ft BD Gs rfl rfl (.d (.agg (Alert.enc a_1))) rfl wz (eZ (([a_1]:List Alert).map Alert.enc) Kv ez101 rfl rfl rfl rfl rfl wz (aF 0 1 il ft sz76 ag76 rfl rfl (.d (.agg (Post.enc p_2))) rfl wz (eZ (([p_2]:List Post).map Post.enc) NP ez102 rfl rfl rfl rfl rfl wz ?_)))))))))))
 obtain ⟨r_5,hr_6,hF⟩:=bind_some hF
 refine aD (yQ hr_6) rfl hb48 rfl rfl rfl rfl wz (aa (vI r_5) (ah (ai (aa (vI r_5) (aa (vB (r_5 != 0)) (ah ?_))))))
 rcases aj hF with⟨hc_7,hF⟩|⟨hc_7,hF⟩
 ·refine aB rfl hc_7 (ai (aa (vI r_5) (aa (vB false) (aa (vI r_5) (ah ?_)))))
  obtain rfl:=ae hF
  exact ay (aJ [(vB false),(vI r_5)] ⟨rfl,⟨rfl,trivial⟩⟩)
 ·refine aA rfl hc_7 (ax (ai (aF 0 0 il ft BD Gs rfl rfl (.d (.agg (Alert.enc a_1))) rfl wz (aF 0 1 il ft sz76 ag76 rfl rfl (.d (.agg (Post.enc p_2))) rfl wz ?_))))
  obtain ⟨r_8,hr_9,hF⟩:=bind_some hF
  refine aD (Ar hr_9) rfl hb49 rfl rfl rfl rfl wz (aa (vB r_8) (aa (vI 0) (ah ?_)))
  obtain rfl:=ae hF
  exact ay (aJ [(vB r_8),(vI 0)] ⟨rfl,⟨rfl,trivial⟩⟩)
theorem zq {l_1:(List Int)} {r:Int} (hF:oG l_1=some r) :
  FnM Tryz.prog 12 [(vL eI l_1)] [] (vI r) []:=by
 refine FnM.of_wH ⟨Tryz.prog,15,[],[]⟩ rfl Tryz.func12 rfl rfl (lb_ rfl) (by kernel_rfl) ?_
 unfold oG at hF
 refine ai (aa (vI 0) (ah (ak (ai (aa (vL eI l_1) (bW un77 rfl wz (aa (vI 0) (ah ?_))))))))
 obtain ⟨o_10,hj_11,hF⟩:=bind_some hF
 obtain ⟨hn_6,hj_11⟩:=bv hj_11
 refine di (λ(s_7:Unit)=>[]) (λ(s_7:Unit)=>[]) (λ(k_2:Nat)=>(λ(s_7:Unit)=>[(5,(vL eI l_1)),(6,(vI (l_1.length:Int))),(7,(vI (k_2:Int)))])) (λk x s=>qI k x s) o_10 l_1 () hj_11 rfl (aK rfl) ?_ ?_
 ·rintro ⟨k_2,l_3,s_7⟩ ⟨hL_9,hD_5⟩
  dsimp only at hL_9 hD_5
  cases l_3 with
  | nil =>
   obtain rfl:=ae hL_9
   refine ai (aa (vB (decide ((k_2:Int)<(l_1.length:Int)))) (ah ?_))
   refine ak (aA rfl (drop_nil hD_5) (aX ?_))
   exact aU (s_7) rfl rfl (aK rfl)
  | cons x_4 l_3 =>
   obtain ⟨c_,hc_8,hL_9⟩:=bind_some hL_9
   refine ai (aa (vB (decide ((k_2:Int)<(l_1.length:Int)))) (ah ?_))
   refine ak (aB rfl (bD hD_5) (ax ?_))
   unfold qI at hc_8
   refine ak (aN (ai (dR es77 rfl rfl (bR hD_5) rfl wz (bQ sz36 ag36 rfl (vI x_4) rfl wz (aa (vI x_4) (ah (ai (aa (vI x_4) (aa (vB (x_4 != 0)) (ah ?_))))))))))
   rcases aj hc_8 with⟨hc_12,hc_8⟩|⟨hc_12,hc_8⟩
   ·refine aB rfl hc_12 (ai (aa (vI x_4) (aa (vI x_4) (ah ?_))))
    obtain rfl:=ae hc_8
    obtain rfl:=ae hL_9
    obtain rfl:=ae hF
    exact ay (aJ [(vI x_4)] ⟨rfl,trivial⟩)
   ·refine aA rfl hc_12 (ax (au (eY (bH hD_5 hn_6) wz rfl (aa (vI ((k_2+1:Nat):Int)) (ah ?_)))))
    obtain rfl:=ae hc_8
    exact aY (k_2+1,l_3,()) ⟨hL_9,aZ hD_5⟩ (ls_ _) rfl (aK rfl)
 ·rintro s_7 ho_ sl_ H_ hp_ hq_
  subst ho_
  refine aO _ hp_ hq_ (ai (aa (vI 0) (ah ?_)))
  obtain rfl:=ae hF
  exact ay (aJ [(vI 0)] ⟨rfl,trivial⟩)
theorem xZ {r:Bool} (hF:mW  = some r) :
  FnM Tryz.prog 10 [] [] (vB r) []:=by
 refine FnM.of_wH ⟨Tryz.prog,75,[],[]⟩ rfl Tryz.func10 rfl rfl (lb_ rfl) (by kernel_rfl) ?_
 unfold mW at hF
 refine ai (aa (vB false) (ah (ai (aH (.d (.agg (Rect.enc (⟨0,0,2,2⟩:Rect)))) wz (by kernel_rfl) (aH (.d (.agg (Rect.enc (⟨1,1,2,2⟩:Rect)))) wz (by kernel_rfl) (eZ (([(⟨0,0,2,2⟩:Rect),(⟨1,1,2,2⟩:Rect)]:List Rect).map Rect.enc) FB ez61 rfl rfl rfl rfl rfl wz ?_))))))
 obtain ⟨r_1,hr_2,hF⟩:=bind_some hF
 refine aD (C8 hr_2) rfl hb23 rfl rfl rfl rfl wz (aa (.tup [(vI r_1.1),(vI r_1.2)]) (aa (vI r_1.1) (aa (vI r_1.2) (aa (vI r_1.1) (aa (vI r_1.2) (ah (ai (aH (.agg [(vS (⟨#[97]⟩:ByteArray)),(vS (⟨#[98]⟩:ByteArray)),(vI 0),(vI 0),(vI 0),(vI 1),(vI 127),.nil,(vI 1),(vI 2),(vI 0),.nil,(vB false)]) wz (by kernel_rfl) (aH (.d (.agg (Window.enc (⟨0,86400000⟩:Window)))) wz (by kernel_rfl) ?_)))))))))
 obtain ⟨r_3,hr_4,hF⟩:=bind_some hF
 refine aD (zx hr_4) rfl hb24 rfl rfl rfl rfl wz (aa (.tup [(vL Window.enc r_3.1),(vI r_3.2)]) (aa (vL Window.enc r_3.1) (aa (vI r_3.2) (aa (vL Window.enc r_3.1) (aa (vI r_3.2) (ah (ai (aH (.d (.agg (Window.enc (⟨0,100⟩:Window)))) wz (by kernel_rfl) (aH (.agg [(vS (⟨#[97]⟩:ByteArray)),(vS (⟨#[]⟩:ByteArray)),(vI 0),(vI 100),.nil,(vI 10),(vI 0),(vI 0)]) wz (by kernel_rfl) ?_)))))))))
 obtain ⟨r_5,hr_6,hF⟩:=bind_some hF
 refine aD (Dh hr_6) rfl hb25 rfl rfl rfl rfl wz (aa (.tup [(vI r_5.1),(vI r_5.2)]) (aa (vI r_5.1) (aa (vI r_5.2) (aa (vI r_5.1) (aa (vI r_5.2) (ah (ai (aH (.d (.agg (Beat.enc (⟨(⟨#[112]⟩:ByteArray),0,100⟩:Beat)))) wz (by kernel_rfl) (aH (.d (.agg (Beat.enc (⟨(⟨#[112]⟩:ByteArray),1000,1300⟩:Beat)))) wz (by kernel_rfl) (eZ (([(⟨(⟨#[112]⟩:ByteArray),0,100⟩:Beat),(⟨(⟨#[112]⟩:ByteArray),1000,1300⟩:Beat)]:List Beat).map Beat.enc) LH ez71 rfl rfl rfl rfl rfl wz ?_))))))))))
 obtain ⟨r_7,hr_8,hF⟩:=bind_some hF
 refine aD (BZ hr_8) rfl hb26 rfl rfl rfl rfl wz (aa (.tup [(vI r_7.1),(vI r_7.2)]) (aa (vI r_7.1) (aa (vI r_7.2) (aa (vI r_7.1) (aa (vI r_7.2) (ah (aO (H0:=([]:Hp)) ([(1,(vI r_1.1)),(2,(vI r_1.2)),(3,(vL Window.enc r_3.1)),(4,(vI r_3.2)),(5,(vI r_5.1)),(6,(vI r_5.2)),(7,(vI r_7.1)),(8,(vI r_7.2))]:SL_) (by kernel_rfl) (sW (by kernel_rfl)) (ai (aH (.d (.agg (Rect.enc (⟨0,0,2,2⟩:Rect)))) wz (by kernel_rfl) (eZ (([(⟨0,0,2,2⟩:Rect)]:List Rect).map Rect.enc) FB ez61 rfl rfl rfl rfl rfl wz (aH (.agg [(vS (⟨#[97]⟩:ByteArray)),(vS (⟨#[115]⟩:ByteArray)),(vI 1),.nil,(vI 0),(vI 5),(vI 1),(vL Rect.enc ([(⟨0,0,2,2⟩:Rect)]:List Rect)),(vS (⟨#[120]⟩:ByteArray))]) wz (by kernel_rfl) (dI 0 (.inl rfl) z73 rfl wz (λn_9=>fP 0 il ft 0 BD rfl rfl [(vS (⟨#[97]⟩:ByteArray)),(vS (⟨#[115]⟩:ByteArray)),(vI 1),.nil,(vI 0),(vI 5),(vI 1),(vL Rect.enc ([(⟨0,0,2,2⟩:Rect)]:List Rect)),(vS (⟨#[120]⟩:ByteArray))] rfl wz (ah (ai (aF 0 0 il ft BD Gs rfl rfl (.agg [(vS (⟨#[97]⟩:ByteArray)),(vS (⟨#[115]⟩:ByteArray)),(vI 1),.nil,(vI 0),(vI 5),(vI 1),(vL Rect.enc ([(⟨0,0,2,2⟩:Rect)]:List Rect)),(vS (⟨#[120]⟩:ByteArray))]) rfl wz (aH (.d (.agg (Post.enc (⟨(⟨#[112]⟩:ByteArray),1,1⟩:Post)))) wz (by kernel_rfl) ?_)))))))))))))))))
 obtain ⟨r_10,hr_11,hF⟩:=bind_some hF
 refine aD (Ay hr_11) rfl hb27 rfl rfl rfl rfl wz (aa (.tup [(vB r_10.1),(vI r_10.2)]) (aa (vB r_10.1) (aa (vI r_10.2) (aa (vB r_10.1) (aa (vI r_10.2) (ah (ak ?_)))))))
 obtain ⟨v_12,h_13,hF⟩:=bind_some hF
 refine aP [(0,(vB v_12))] [(n_9,some (.cells 9 [(vS (⟨#[97]⟩:ByteArray)),(vS (⟨#[115]⟩:ByteArray)),(vI 1),.nil,(vI 0),(vI 5),(vI 1),(vL Rect.enc ([(⟨0,0,2,2⟩:Rect)]:List Rect)),(vS (⟨#[120]⟩:ByteArray))]))] ?_ ?_
 ·refine au (aa (vI r_1.2) (aa (vI r_3.2) (aa (vI r_5.2) (aa (vI r_7.2) (aa (vI r_10.2) (eZ (([r_1.2,r_3.2,r_5.2,r_7.2,r_10.2]:List Int).map eI) es77 ez77 rfl rfl rfl rfl rfl wz ?_))))))
  obtain ⟨r_14,hr_15,h_13⟩:=bind_some h_13
  refine aD (zq hr_15) rfl hb12 rfl rfl rfl rfl wz (aa (vB (r_14==0)) ?_)
  rcases aj h_13 with⟨hc_16,h_13⟩|⟨hc_16,h_13⟩
  ·refine aC rfl hc_16 wz (aH (vI r_1.1) wa rfl (aH (vB (r_1.1==7)) wa rfl (aa (vB (r_1.1==7)) ?_)))
   rcases aj h_13 with⟨hc_17,h_13⟩|⟨hc_17,h_13⟩
   ·refine aC rfl hc_17 wz (aH (vL Window.enc r_3.1) wa rfl (bW un62 rfl wa (aH (vB ((r_3.1.length:Int)==1)) wa rfl (aa (vB ((r_3.1.length:Int)==1)) ?_))))
    rcases aj h_13 with⟨hc_18,h_13⟩|⟨hc_18,h_13⟩
    ·refine aC rfl hc_18 wz (aH (vI r_5.1) wa rfl (aH (vB (r_5.1==5)) wa rfl (aa (vB (r_5.1==5)) ?_)))
     rcases aj h_13 with⟨hc_19,h_13⟩|⟨hc_19,h_13⟩
     ·refine aC rfl hc_19 wz (aH (vI r_7.1) wa rfl (aH (vB (r_7.1==500)) wa rfl (aa (vB (r_7.1==500)) ?_)))
      rcases aj h_13 with⟨hc_20,h_13⟩|⟨hc_20,h_13⟩
      ·refine aC rfl hc_20 wz (aH (vB r_10.1) wa rfl (aa (vB r_10.1) (aa (vB r_10.1) (ah ?_))))
       obtain rfl:=ae h_13
       exact cu
      ·refine aC rfl hc_20 wz (af (aa (vB false) (aa (vB false) (ah ?_))))
       obtain rfl:=ae h_13
       exact cu
     ·refine aC rfl hc_19 wz (af (af (aa (vB false) (aa (vB false) (af (aa (vB false) (aa (vB false) (ah ?_))))))))
      obtain rfl:=ae h_13
      exact cu
    ·refine aC rfl hc_18 wz (af (af (aa (vB false) (aa (vB false) (af (af (aa (vB false) (aa (vB false) (af (aa (vB false) (aa (vB false) (ah ?_))))))))))))
     obtain rfl:=ae h_13
     exact cu
   ·refine aC rfl hc_17 wz (af (af (af (aa (vB false) (aa (vB false) (af (af (aa (vB false) (aa (vB false) (af (af (aa (vB false) (aa (vB false) (af (aa (vB false) (aa (vB false) (ah ?_)))))))))))))))))
    obtain rfl:=ae h_13
    exact cu
  ·refine aC rfl hc_16 wz (af (af (aa (vB false) (aa (vB false) (af (af (af (aa (vB false) (aa (vB false) (af (af (aa (vB false) (aa (vB false) (af (af (aa (vB false) (aa (vB false) (af (aa (vB false) (aa (vB false) (ah ?_)))))))))))))))))))))
   obtain rfl:=ae h_13
   exact cu
 ·rintro ⟨⟩ _ sl_ H_ hp_ hq_
  refine aO _ hp_ hq_ ?_
  obtain rfl:=ae hF
  exact ay (aJ [(vB v_12)] ⟨rfl,trivial⟩)
end Go.Proofs.YtekmkepojbhafabGreatDoor.Law

