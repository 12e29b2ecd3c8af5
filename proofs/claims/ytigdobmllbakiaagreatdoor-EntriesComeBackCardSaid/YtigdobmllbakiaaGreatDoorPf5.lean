/-
 The machine computes these plain functions (written by a program of ours).
-/
import Derived.Test.YtigdobmllbakiaaGreatDoorFacts
import Derived.Test.YtigdobmllbakiaaGreatDoorDefs
import Derived.Test.YtigdobmllbakiaaGreatDoorPf4
open Go Go.Eng Go.Proofs
namespace Go.Proofs.YtigdobmllbakiaaGreatDoor.Law
set_option maxRecDepth 100000
set_option linter.unusedVariables false
set_option maxHeartbeats 1000000
theorem wV {a_1:Alert} {r:Int} (hF:jk a_1=some r) :
  FnM Tryz.prog 113 [(.d (.agg (Alert.enc a_1)))] [] (vI r) []:=by
 refine FnM.of_wH ⟨Tryz.prog,92,[],[]⟩ rfl Tryz.func113 rfl rfl (lb_ rfl) (by kernel_rfl) ?_
 unfold jk at hF
 refine aj (ik 0 (.inl rfl) (Alert.v a_1) rfl rfl wz (λn_2=>aa (vI 0) (af (au (au ?_)))))
 obtain ⟨v_3,h_4,hF⟩:=bind_some hF
 refine aR [(1,(.ref n_2 0 0)),(17,(vB v_3))] [(n_2,some (.cells 9 (Alert.v a_1)))] ?_ ?_
 ·refine av (aI zo rfl 0 rfl wz (aG 0 0 il ft sz9 ag9 rfl rfl (vS a_1.Id) rfl wz ?_))
  obtain ⟨r_5,hr_6,h_4⟩:=bind_some h_4
  refine aC (fJ hr_6) rfl CW rfl rfl rfl rfl wz (aa (vB (!r_5)) ?_)
  rcases ak h_4 with⟨hc_7,h_4⟩|⟨hc_7,h_4⟩
  ·refine aD rfl hc_7 wz (ah (ah (ah (ah (aa (vB true) (af ?_))))))
   obtain rfl:=ae h_4
   exact cu
  ·refine aD rfl hc_7 wz (aI pl83_1 rfl 1 rfl wa (aG 0 0 il ft sz9 ag9 rfl rfl (vS a_1.Sender) rfl wa ?_))
   obtain ⟨r_8,hr_9,h_4⟩:=bind_some h_4
   refine aC (fJ hr_9) rfl CW rfl rfl rfl rfl wa (aJ (vB (!r_8)) wa rfl (aa (vB (!r_8)) (af ?_)))
   obtain rfl:=ae h_4
   exact cu
 ·rintro ⟨⟩ _ sl_ H_ hp_ hq_
  refine aQ _ hp_ hq_ ?_
  rcases ak hF with⟨hc_10,hF⟩|⟨hc_10,hF⟩
  ·refine aB rfl hc_10 (aj (aa (vI 5) (af ?_)))
   obtain rfl:=ae hF
   exact ay (aK [(vI 5)] ⟨rfl,trivial⟩)
  ·refine aA rfl hc_10 (ax (au (aj (aI Jw rfl 2 rfl wz (aG 0 0 il ft sz3 ag3 rfl rfl (vI a_1.Kind) rfl wz ?_)))))
   obtain ⟨r_11,hr_12,hF⟩:=bind_some hF
   refine aC (bn hr_12) rfl qN rfl rfl rfl rfl wz (af ?_)
   rcases ak hF with⟨hc_13,hF⟩|⟨hc_13,hF⟩
   ·refine aB rfl hc_13 (aj (aa (vI 4) (af ?_)))
    obtain rfl:=ae hF
    exact ay (aK [(vI 4)] ⟨rfl,trivial⟩)
   ·refine aA rfl hc_13 (ax (au (aj (aG 0 0 il ft Ba FC rfl rfl (.d (.agg (Alert.enc a_1))) rfl wz ?_))))
    obtain ⟨r_14,hr_15,hF⟩:=bind_some hF
    refine aC (xU hr_15) rfl hb140 rfl rfl rfl rfl wz (aa (vI r_14) (af (aj (aa (vI r_14) (aa (vB (r_14 != 0)) (af ?_))))))
    rcases ak hF with⟨hc_16,hF⟩|⟨hc_16,hF⟩
    ·refine aB rfl hc_16 (aj (aa (vI r_14) (aa (vI r_14) (af ?_))))
     obtain rfl:=ae hF
     exact ay (aK [(vI r_14)] ⟨rfl,trivial⟩)
    ·refine aA rfl hc_16 (ax (au (au ?_)))
     obtain ⟨v_17,h_18,hF⟩:=bind_some hF
     refine aR [(1,(.ref n_2 0 0)),(45,(vB v_17))] [(n_2,some (.cells 9 (Alert.v a_1)))] ?_ ?_
     ·refine av (aI Bw rfl 4 rfl wz (aG 0 0 il ft sz3 ag3 rfl rfl (vI a_1.At) rfl wz ?_))
      obtain ⟨r_19,hr_20,h_18⟩:=bind_some h_18
      refine aC (gX hr_20) rfl JC rfl rfl rfl rfl wz (aa (vB (!r_19)) ?_)
      rcases ak h_18 with⟨hc_21,h_18⟩|⟨hc_21,h_18⟩
      ·refine aD rfl hc_21 wz (ah (ah (ah (ah (ah (ah (ah (ah (ah (aa (vB true) (aa (vB true) (ah (ah (ah (aa (vB true) (af ?_))))))))))))))))
       obtain rfl:=ae h_18
       exact cu
      ·refine aD rfl hc_21 wz (aI pl83_5 rfl 5 rfl wa (aG 0 0 il ft sz3 ag3 rfl rfl (vI a_1.Until) rfl wa (aI Bw rfl 4 rfl wa (aG 0 0 il ft sz3 ag3 rfl rfl (vI a_1.At) rfl wa (aJ (vI (w64 (a_1.At+1))) wa rfl (aI Bw rfl 4 rfl wa (aG 0 0 il ft sz3 ag3 rfl rfl (vI a_1.At) rfl wa (aJ (vI (w64 (a_1.At+2592000000))) wa rfl ?_))))))))
       obtain ⟨r_22,hr_23,h_18⟩:=bind_some h_18
       refine aC (bn hr_23) rfl qN rfl rfl rfl rfl wa (aa (vB r_22) ?_)
       rcases ak h_18 with⟨hc_24,h_18⟩|⟨hc_24,h_18⟩
       ·refine aD rfl hc_24 wz (ah (ah (ah (aa (vB true) (af ?_)))))
        obtain rfl:=ae h_18
        exact cu
       ·refine aD rfl hc_24 wz (aI pl83_6 rfl 6 rfl wa (aG 0 0 il ft sz3 ag3 rfl rfl (vI a_1.Weight) rfl wa ?_))
        obtain ⟨r_25,hr_26,h_18⟩:=bind_some h_18
        refine aC (bn hr_26) rfl qN rfl rfl rfl rfl wa (aa (vB r_25) (af ?_))
        obtain rfl:=ae h_18
        exact cu
     ·rintro ⟨⟩ _ sl_ H_ hp_ hq_
      refine aQ _ hp_ hq_ ?_
      rcases ak hF with⟨hc_27,hF⟩|⟨hc_27,hF⟩
      ·refine aB rfl hc_27 (aj (aa (vI 1) (af ?_)))
       obtain rfl:=ae hF
       exact ay (aK [(vI 1)] ⟨rfl,trivial⟩)
      ·refine aA rfl hc_27 (ax (au (aj (aI ER rfl 7 rfl wz (aG 0 0 il ft La LV rfl rfl (vL Rect.enc a_1.Areas) rfl wz (bI zI rfl wz (aa (vB (decide ((a_1.Areas.length:Int)>20))) (af ?_))))))))
       rcases ak hF with⟨hc_28,hF⟩|⟨hc_28,hF⟩
       ·refine aB rfl hc_28 (aj (aa (vI 2) (af ?_)))
        obtain rfl:=ae hF
        exact ay (aK [(vI 2)] ⟨rfl,trivial⟩)
       ·refine aA rfl hc_28 (ax (au (aj (aI ER rfl 7 rfl wz (aG 0 0 il ft La LV rfl rfl (vL Rect.enc a_1.Areas) rfl wz (bI zI rfl wz (aa (vI 0) (af ?_))))))))
        obtain ⟨o_37,hj_38,hF⟩:=bind_some hF
        obtain ⟨hn_33,hj_38⟩:=aX hj_38
        refine di (λ(s_34:Unit)=>[(1,(.ref n_2 0 0))]) (λ(s_34:Unit)=>[(n_2,some (.cells 9 (Alert.v a_1)))]) (λ(k_29:Nat)=>(λ(s_34:Unit)=>[(1,(.ref n_2 0 0)),(51,(vL Rect.enc a_1.Areas)),(52,(vI (a_1.Areas.length:Int))),(53,(vI (k_29:Int)))])) (λk x s=>ji k x s) o_37 a_1.Areas () hj_38 rfl (aL rfl) ?_ ?_
        ·rintro ⟨k_29,l_30,s_34⟩ ⟨hL_36,hD_32⟩
         dsimp only at hL_36 hD_32
         cases l_30 with
         | nil =>
          obtain rfl:=ae hL_36
          refine aj (aa (vB (decide ((k_29:Int)<(a_1.Areas.length:Int)))) (af ?_))
          refine au (aA rfl (drop_nil hD_32) (bg ?_))
          exact aZ (s_34) rfl rfl (aL rfl)
         | cons x_31 l_30 =>
          obtain ⟨c_,hc_35,hL_36⟩:=bind_some hL_36
          refine aj (aa (vB (decide ((k_29:Int)<(a_1.Areas.length:Int)))) (af ?_))
          refine au (aB rfl (bz hD_32) (ax ?_))
          unfold ji at hc_35
          refine au (aO (aj (cZ FV rfl rfl (bH hD_32) rfl wz (bC vk Gm rfl (.d (.agg (Rect.enc x_31))) rfl wz (dE 0 (.inl rfl) z68 rfl wz (λn_39=>fo 0 il ft 1 vk rfl rfl (Rect.v x_31) rfl wz (af (aj (aG 0 1 il ft vk Gm rfl rfl (.d (.agg (Rect.enc x_31))) rfl wz ?_)))))))))
          obtain ⟨r_40,hr_41,hc_35⟩:=bind_some hc_35
          refine aC (pK hr_41) rfl hb77 rfl rfl rfl rfl wz (aa (vI r_40) (af (aj (aa (vI r_40) (aa (vB (r_40 != 0)) (af ?_))))))
          rcases ak hc_35 with⟨hc_42,hc_35⟩|⟨hc_42,hc_35⟩
          ·refine aB rfl hc_42 (aj (aa (vI r_40) (aa (vI r_40) (af ?_))))
           obtain rfl:=ae hc_35
           obtain rfl:=ae hL_36
           obtain rfl:=ae hF
           exact ay (aK [(vI r_40)] ⟨rfl,trivial⟩)
          ·refine aA rfl hc_42 (ax (av (eY (bD hD_32 hn_33) wz rfl (aa (vI ((k_29+1:Nat):Int)) (af ?_)))))
           obtain rfl:=ae hc_35
           exact aY (k_29+1,l_30,()) ⟨hL_36,aV hD_32⟩ (ls_ _) rfl (aL rfl)
        ·rintro s_34 ho_ sl_ H_ hp_ hq_
         subst ho_
         refine aQ _ hp_ hq_ (aj (aI Jw rfl 2 rfl wz (aG 0 0 il ft sz3 ag3 rfl rfl (vI a_1.Kind) rfl wz (aa (vB (a_1.Kind==3)) (aa (vB (a_1.Kind==3)) (af (au (aO (aj (aa (vB (a_1.Kind==3)) (aI ER rfl 7 rfl wz (aG 0 0 il ft La LV rfl rfl (vL Rect.enc a_1.Areas) rfl wz (bI zI rfl wz (aa (vB ((a_1.Areas.length:Int)==0)) (MZ un4 rfl rfl wz (aa (vB (!((a_1.Kind==3)==((a_1.Areas.length:Int)==0)))) (af ?_)))))))))))))))))
         rcases ak hF with⟨hc_43,hF⟩|⟨hc_43,hF⟩
         ·refine aB rfl hc_43 (aj (aa (vI 3) (af ?_)))
          obtain rfl:=ae hF
          exact ay (aK [(vI 3)] ⟨rfl,trivial⟩)
         ·refine aA rfl hc_43 (aj (aI Jb rfl 8 rfl wz (aG 0 0 il ft sz9 ag9 rfl rfl (vS a_1.Text) rfl wz (nH un9 rfl wz (aa (vB (decide ((a_1.Text.size:Int)>500))) (aa (vB (decide ((a_1.Text.size:Int)>500))) (af ?_)))))))
          rcases ak hF with⟨hc_44,hF⟩|⟨hc_44,hF⟩
          ·refine aB rfl hc_44 (aj (aa (vI 2) (af ?_)))
           obtain rfl:=ae hF
           exact ay (aK [(vI 2)] ⟨rfl,trivial⟩)
          ·refine aA rfl hc_44 (au ?_)
           obtain ⟨v_45,h_46,hF⟩:=bind_some hF
           refine aR [(78,(vB v_45))] [(n_2,some (.cells 9 (Alert.v a_1)))] ?_ ?_
           ·refine av (aI Jb rfl 8 rfl wz (aG 0 0 il ft sz9 ag9 rfl rfl (vS a_1.Text) rfl wz ?_))
            obtain ⟨r_47,hr_48,h_46⟩:=bind_some h_46
            refine aC (BC hr_48) rfl hb141 rfl rfl rfl rfl wz (aa (vB (!r_47)) ?_)
            rcases ak h_46 with⟨hc_49,h_46⟩|⟨hc_49,h_46⟩
            ·refine aD rfl hc_49 wz (ah (ah (ah (ah (bG (wn rfl rfl) (bG (wn rfl rfl) (ah (aa (vB true) (aa (vB true) (af ?_))))))))))
             obtain rfl:=ae h_46
             exact cu
            ·refine aD rfl hc_49 wz (aI Jb rfl 8 rfl wa (aG 0 0 il ft sz9 ag9 rfl rfl (vS a_1.Text) rfl wa (aJ (vB (sEq a_1.Text (⟨#[]⟩:ByteArray))) wa rfl ?_)))
             rcases ak h_46 with⟨hc_50,h_46⟩|⟨hc_50,h_46⟩
             ·refine aD rfl hc_50 wa (aJ (vB (a_1.Kind==3)) wa rfl (aJ (vB (!(a_1.Kind==3))) wa rfl (aJ (vB (!(a_1.Kind==3))) wa rfl (aa (vB (!(a_1.Kind==3))) (aa (vB (!(a_1.Kind==3))) (af ?_))))))
              obtain rfl:=ae h_46
              exact cu
             ·refine aD rfl hc_50 wa (ah (ah (aJ (vB false) wa rfl (aa (vB false) (aa (vB false) (af ?_))))))
              obtain rfl:=ae h_46
              exact cu
           ·rintro ⟨⟩ _ sl_ H_ hp_ hq_
            refine aQ _ hp_ hq_ ?_
            rcases ak hF with⟨hc_51,hF⟩|⟨hc_51,hF⟩
            ·refine aB rfl hc_51 (aj (aa (vI 3) (af ?_)))
             obtain rfl:=ae hF
             exact ay (aK [(vI 3)] ⟨rfl,trivial⟩)
            ·refine aA rfl hc_51 (ax (aj (aa (vI 0) (af ?_))))
             obtain rfl:=ae hF
             exact ay (aK [(vI 0)] ⟨rfl,trivial⟩)
theorem Aa {a_1:Alert} {b_2:Alert} {r:Int} (hF:og a_1 b_2=some r) :
  FnM Tryz.prog 114 [(.d (.agg (Alert.enc a_1))),(.d (.agg (Alert.enc b_2)))] [] (vI r) []:=by
 refine FnM.of_wH ⟨Tryz.prog,17,[],[]⟩ rfl Tryz.func114 rfl rfl (lb_ rfl) (by kernel_rfl) ?_
 unfold og at hF
 refine aj (ik 0 (.inl rfl) (Alert.v a_1) rfl rfl wz (λn_3=>ik 0 (.inl rfl) (Alert.v b_2) rfl rfl wz (λn_4=>aa (vI 0) (af (au (bL (aI Bw rfl 4 rfl wz (aG 1 0 (.inr (by kernel_rfl)) (λ_ _ ag=>trivial) sz3 ag3 rfl rfl (vI a_1.At) rfl wz (aI Bw rfl 4 rfl wz (aG 3 1 (.inr (by kernel_rfl)) (λ_ _ ag=>⟨.inl ⟨rfl,rfl⟩,trivial⟩) sz3 ag3 rfl rfl (vI b_2.At) rfl wz ?_))))))))))
 obtain ⟨r_5,hr_6,hF⟩:=bind_some hF
 refine aC (qG hr_6) rfl hb139 rfl rfl rfl rfl wz (aI zo rfl 0 rfl wz (aG 6 0 (.inr (by kernel_rfl)) (λ_ _ ag=>⟨.inl ⟨rfl,rfl⟩,⟨.inl ⟨rfl,rfl⟩,trivial⟩⟩) sz9 ag9 rfl rfl (vS a_1.Id) rfl wz (aI zo rfl 0 rfl wz (aG 8 1 (.inr (by kernel_rfl)) (λ_ _ ag=>⟨.inl ⟨rfl,rfl⟩,⟨.inl ⟨rfl,rfl⟩,⟨.inl ⟨rfl,rfl⟩,trivial⟩⟩⟩) sz9 ag9 rfl rfl (vS b_2.Id) rfl wz ?_))))
 obtain ⟨r_7,hr_8,hF⟩:=bind_some hF
 refine aC (qF hr_8) rfl hb138 rfl rfl rfl rfl wz (dW (([r_5,r_7]:List Int).map eI) iQ wX rfl rfl rfl rfl rfl wz ?_)
 obtain ⟨r_9,hr_10,hF⟩:=bind_some hF
 refine aC (xq hr_10) rfl hb137 rfl rfl rfl rfl wz (aa (vI r_9) (af ?_))
 obtain rfl:=ae hF
 exact ay (aK [(vI r_9)] ⟨rfl,trivial⟩)
theorem uZ {l_1:(List Alert)} {r:Int} (hF:jb l_1=some r) :
  FnM Tryz.prog 91 [(vL Alert.enc l_1)] [] (vI r) []:=by
 refine FnM.of_wH ⟨Tryz.prog,52,[],[]⟩ rfl Tryz.func91 rfl rfl (lb_ rfl) (by kernel_rfl) ?_
 unfold jb at hF
 refine aj (aa (vI 0) (af (au (aj (aa (vL Alert.enc l_1) (bI MH rfl wz (aa (vB (decide ((l_1.length:Int)>300))) (af ?_))))))))
 rcases ak hF with⟨hc_2,hF⟩|⟨hc_2,hF⟩
 ·refine aB rfl hc_2 (aj (aa (vI 2) (af ?_)))
  obtain rfl:=ae hF
  exact ay (aK [(vI 2)] ⟨rfl,trivial⟩)
 ·refine aA rfl hc_2 (ax (au (aj (aa (vL Alert.enc l_1) (bI MH rfl wz (aa (vI 0) (af ?_)))))))
  obtain ⟨o_11,hj_12,hF⟩:=bind_some hF
  obtain ⟨hn_7,hj_12⟩:=aX hj_12
  refine di (λ(s_8:Unit)=>[(0,(vL Alert.enc l_1))]) (λ(s_8:Unit)=>[]) (λ(k_3:Nat)=>(λ(s_8:Unit)=>[(0,(vL Alert.enc l_1)),(12,(vL Alert.enc l_1)),(13,(vI (l_1.length:Int))),(14,(vI (k_3:Int)))])) (λk x s=>gG l_1 k x s) o_11 l_1 () hj_12 rfl (aL rfl) ?_ ?_
  ·rintro ⟨k_3,l_4,s_8⟩ ⟨hL_10,hD_6⟩
   dsimp only at hL_10 hD_6
   cases l_4 with
   | nil =>
    obtain rfl:=ae hL_10
    refine aj (aa (vB (decide ((k_3:Int)<(l_1.length:Int)))) (af ?_))
    refine au (aA rfl (drop_nil hD_6) (bg ?_))
    exact aZ (s_8) rfl rfl (aL rfl)
   | cons x_5 l_4 =>
    obtain ⟨c_,hc_9,hL_10⟩:=bind_some hL_10
    refine aj (aa (vB (decide ((k_3:Int)<(l_1.length:Int)))) (af ?_))
    refine au (aB rfl (bz hD_6) (ax ?_))
    unfold gG at hc_9
    refine au (aO (aj (aa (vI (k_3:Int)) (cZ KJ rfl rfl (bH hD_6) rfl wz (bC Ba FC rfl (.d (.agg (Alert.enc x_5))) rfl wz (dE 0 (.inl rfl) z83 rfl wz (λn_13=>aa (vI (k_3:Int)) (fo 0 il ft 0 Ba rfl rfl (Alert.v x_5) rfl wz (af (au (aj (aG 0 0 il ft Ba FC rfl rfl (.d (.agg (Alert.enc x_5))) rfl wz ?_))))))))))))
    obtain ⟨r_14,hr_15,hc_9⟩:=bind_some hc_9
    refine aC (wV hr_15) rfl hb113 rfl rfl rfl rfl wz (aa (vI r_14) (af (aj (aa (vI r_14) (aa (vB (r_14 != 0)) (af ?_))))))
    rcases ak hc_9 with⟨hc_16,hc_9⟩|⟨hc_16,hc_9⟩
    ·refine aB rfl hc_16 (aj (aa (vI r_14) (aa (vI r_14) (af ?_))))
     obtain rfl:=ae hc_9
     obtain rfl:=ae hL_10
     obtain rfl:=ae hF
     exact ay (aK [(vI r_14)] ⟨rfl,trivial⟩)
    ·refine aA rfl hc_16 (ax (au ?_))
     obtain ⟨v_17,h_18,hc_9⟩:=bind_some hc_9
     refine aR [(0,(vL Alert.enc l_1)),(12,(vL Alert.enc l_1)),(13,(vI (l_1.length:Int))),(14,(vI (k_3:Int))),(35,(vB v_17))] [(n_13,some (.cells 9 (Alert.v x_5)))] ?_ ?_
     ·refine bL (aa (vI (k_3:Int)) (aa (vB (decide ((k_3:Int)>0))) ?_))
      rcases ak h_18 with⟨hc_19,h_18⟩|⟨hc_19,h_18⟩
      ·refine aD rfl hc_19 wz (aJ (vL Alert.enc l_1) wa rfl (aJ (vI (k_3:Int)) wa rfl (aJ (vI (w64 ((k_3:Int)-1))) wa rfl ?_)))
       obtain ⟨y_20,hy_21,h_18⟩:=bind_some h_18
       refine cZ KJ rfl rfl hy_21 rfl wa (bC Ba FC rfl (.d (.agg (Alert.enc y_20))) rfl wa (aG 8 0 (.inr (by kernel_rfl)) (λ_ _ ag=>trivial) Ba FC rfl rfl (.d (.agg (Alert.enc x_5))) rfl wa ?_))
       obtain ⟨r_22,hr_23,h_18⟩:=bind_some h_18
       refine aC (Aa hr_23) rfl hb114 rfl rfl rfl rfl wa (aJ (vB (decide (r_22>=0))) wa rfl (aa (vB (decide (r_22>=0))) (af ?_)))
       obtain rfl:=ae h_18
       exact cu
      ·refine aD rfl hc_19 wz (ah (ah (ah (ah (ah (ah (ah (ah (aa (vB false) (af ?_))))))))))
       obtain rfl:=ae h_18
       exact cu
     ·rintro ⟨⟩ _ sl_ H_ hp_ hq_
      refine aQ _ hp_ hq_ ?_
      rcases ak hc_9 with⟨hc_24,hc_9⟩|⟨hc_24,hc_9⟩
      ·refine aB rfl hc_24 (aj (aa (vI 7) (af ?_)))
       obtain rfl:=ae hc_9
       obtain rfl:=ae hL_10
       obtain rfl:=ae hF
       exact ay (aK [(vI 7)] ⟨rfl,trivial⟩)
      ·refine aA rfl hc_24 (ax (av (eY (bD hD_6 hn_7) wz rfl (aa (vI ((k_3+1:Nat):Int)) (af ?_)))))
       obtain rfl:=ae hc_9
       exact aY (k_3+1,l_4,()) ⟨hL_10,aV hD_6⟩ (ls_ _) rfl (aL rfl)
  ·rintro s_8 ho_ sl_ H_ hp_ hq_
   subst ho_
   refine aQ _ hp_ hq_ (aj (h_mkmap 0 (.inl rfl) wz (λn_25=>KG (b':=some (bM D.str D.bool ([]:List (ByteArray×Bool)))) 0 rfl rfl (aa (.map n_25) (af (au (aj (aa (vL Alert.enc l_1) (bI MH rfl wz (aa (vI 0) (af ?_)))))))))))
   obtain ⟨o_34,hj_35,hF⟩:=bind_some hF
   obtain ⟨hn_30,hj_35⟩:=aX hj_35
   refine di (λ(s_31:(List (ByteArray×Bool)))=>[]) (λ(s_31:(List (ByteArray×Bool)))=>[(n_25,some (bM D.str D.bool s_31))]) (λ(k_26:Nat)=>(λ(s_31:(List (ByteArray×Bool)))=>[(6,(.map n_25)),(38,(vL Alert.enc l_1)),(39,(vI (l_1.length:Int))),(40,(vI (k_26:Int)))])) (λk x s=>iT k x s) o_34 l_1 ([]:List (ByteArray×Bool)) hj_35 rfl (aL rfl) ?_ ?_
   ·rintro ⟨k_26,l_27,s_31⟩ ⟨hL_33,hD_29⟩
    dsimp only at hL_33 hD_29
    cases l_27 with
    | nil =>
     obtain rfl:=ae hL_33
     refine aj (aa (vB (decide ((k_26:Int)<(l_1.length:Int)))) (af ?_))
     refine au (aA rfl (drop_nil hD_29) (bg ?_))
     exact aZ (s_31) rfl rfl (aL rfl)
    | cons x_28 l_27 =>
     obtain ⟨c_,hc_32,hL_33⟩:=bind_some hL_33
     refine aj (aa (vB (decide ((k_26:Int)<(l_1.length:Int)))) (af ?_))
     refine au (aB rfl (bz hD_29) (ax ?_))
     unfold iT at hc_32
     refine au (aO (aj (cZ KJ rfl rfl (bH hD_29) rfl wz (bC Ba FC rfl (.d (.agg (Alert.enc x_28))) rfl wz (dE 0 (.inl rfl) z83 rfl wz (λn_36=>fo 0 il ft 1 Ba rfl rfl (Alert.v x_28) rfl wz (af (au (aj (aa (.map n_25) (aI zo rfl 0 rfl wz (aG 0 1 il ft sz9 ag9 rfl rfl (vS x_28.Id) rfl wz (MS (eq:=eqS) (kD:=D.str) (vD:=D.bool) (es:=s_31) (k:=x_28.Id) (z:=false) 0 0 il ft (λ_ _=>rfl) mt173 (by kernel_rfl) (by kernel_rfl) rfl rfl rfl (vB ((JL eqS s_31 x_28.Id).getD false)) rfl wz (af ?_))))))))))))))
     rcases ak hc_32 with⟨hc_37,hc_32⟩|⟨hc_37,hc_32⟩
     ·refine aB rfl hc_37 (aj (aa (vI 6) (af ?_)))
      obtain rfl:=ae hc_32
      obtain rfl:=ae hL_33
      obtain rfl:=ae hF
      exact ay (aK [(vI 6)] ⟨rfl,trivial⟩)
     ·refine aA rfl hc_37 (ax (av (aa (.map n_25) (aI zo rfl 0 rfl wz (aG 0 1 il ft sz9 ag9 rfl rfl (vS x_28.Id) rfl wz (M7 (eq:=eqS) (kD:=D.str) (vD:=D.bool) (es:=s_31) (k:=x_28.Id) (v:=true) 0 0 il ft (λ_ _=>rfl) mt173 (by kernel_rfl) rfl rfl rfl rfl wz (af (av (eY (bD hD_29 hn_30) wz rfl (aa (vI ((k_26+1:Nat):Int)) (af ?_)))))))))))
      obtain rfl:=ae hc_32
      exact aY (k_26+1,l_27,(M9 eqS s_31 x_28.Id true)) ⟨hL_33,aV hD_29⟩ (ls_ _) rfl (aL rfl)
   ·rintro s_31 ho_ sl_ H_ hp_ hq_
    subst ho_
    refine aQ _ hp_ hq_ (aj (aa (vI 0) (af ?_)))
    obtain rfl:=ae hF
    exact ay (aK [(vI 0)] ⟨rfl,trivial⟩)
theorem wZ {l_1:(List Post)} {r:Int} (hF:jv l_1=some r) :
  FnM Tryz.prog 92 [(vL Post.enc l_1)] [] (vI r) []:=by
 refine FnM.of_wH ⟨Tryz.prog,44,[],[]⟩ rfl Tryz.func92 rfl rfl (lb_ rfl) (by kernel_rfl) ?_
 unfold jv at hF
 refine aj (aa (vI 0) (af (au (aj (aa (vL Post.enc l_1) (bI un116 rfl wz (aa (vB (decide ((l_1.length:Int)>500))) (af ?_))))))))
 rcases ak hF with⟨hc_2,hF⟩|⟨hc_2,hF⟩
 ·refine aB rfl hc_2 (aj (aa (vI 2) (af ?_)))
  obtain rfl:=ae hF
  exact ay (aK [(vI 2)] ⟨rfl,trivial⟩)
 ·refine aA rfl hc_2 (ax (au (aj (aa (vL Post.enc l_1) (bI un116 rfl wz (aa (vI 0) (af ?_)))))))
  obtain ⟨o_11,hj_12,hF⟩:=bind_some hF
  obtain ⟨hn_7,hj_12⟩:=aX hj_12
  refine di (λ(s_8:Unit)=>[]) (λ(s_8:Unit)=>[]) (λ(k_3:Nat)=>(λ(s_8:Unit)=>[(0,(vL Post.enc l_1)),(8,(vL Post.enc l_1)),(9,(vI (l_1.length:Int))),(10,(vI (k_3:Int)))])) (λk x s=>gY l_1 k x s) o_11 l_1 () hj_12 rfl (aL rfl) ?_ ?_
  ·rintro ⟨k_3,l_4,s_8⟩ ⟨hL_10,hD_6⟩
   dsimp only at hL_10 hD_6
   cases l_4 with
   | nil =>
    obtain rfl:=ae hL_10
    refine aj (aa (vB (decide ((k_3:Int)<(l_1.length:Int)))) (af ?_))
    refine au (aA rfl (drop_nil hD_6) (bg ?_))
    exact aZ (s_8) rfl rfl (aL rfl)
   | cons x_5 l_4 =>
    obtain ⟨c_,hc_9,hL_10⟩:=bind_some hL_10
    refine aj (aa (vB (decide ((k_3:Int)<(l_1.length:Int)))) (af ?_))
    refine au (aB rfl (bz hD_6) (ax ?_))
    unfold gY at hc_9
    refine au (aO (aj (aa (vI (k_3:Int)) (cZ Mj rfl rfl (bH hD_6) rfl wz (bC sz87 ag87 rfl (.d (.agg (Post.enc x_5))) rfl wz (dE 0 (.inl rfl) z87 rfl wz (λn_13=>aa (vI (k_3:Int)) (fo 0 il ft 0 sz87 rfl rfl (Post.v x_5) rfl wz (af (aO (aj (aI JK rfl 0 rfl wz (aG 0 0 il ft sz9 ag9 rfl rfl (vS x_5.Player) rfl wz ?_)))))))))))))
    obtain ⟨r_14,hr_15,hc_9⟩:=bind_some hc_9
    refine aC (fJ hr_15) rfl CW rfl rfl rfl rfl wz (aa (vB (!r_14)) (aa (vB (!r_14)) (af ?_)))
    rcases ak hc_9 with⟨hc_16,hc_9⟩|⟨hc_16,hc_9⟩
    ·refine aB rfl hc_16 (aj (aa (vI 5) (af ?_)))
     obtain rfl:=ae hc_9
     obtain rfl:=ae hL_10
     obtain rfl:=ae hF
     exact ay (aK [(vI 5)] ⟨rfl,trivial⟩)
    ·refine aA rfl hc_16 (au ?_)
     obtain ⟨v_17,h_18,hc_9⟩:=bind_some hc_9
     refine aR [(0,(vL Post.enc l_1)),(3,(vI (k_3:Int))),(4,(.ref n_13 0 0)),(8,(vL Post.enc l_1)),(9,(vI (l_1.length:Int))),(10,(vI (k_3:Int))),(20,(vB v_17))] [(n_13,some (.cells 3 (Post.v x_5)))] ?_ ?_
     ·refine av (aI IX rfl 1 rfl wz (aG 0 0 il ft sz3 ag3 rfl rfl (vI x_5.X) rfl wz ?_))
      obtain ⟨r_19,hr_20,h_18⟩:=bind_some h_18
      refine aC (bn hr_20) rfl qN rfl rfl rfl rfl wz ?_
      rcases ak h_18 with⟨hc_21,h_18⟩|⟨hc_21,h_18⟩
      ·refine aD rfl hc_21 wz (ah (ah (ah (aa (vB true) (aa (vB true) (af ?_))))))
       obtain rfl:=ae h_18
       exact cu
      ·refine aD rfl hc_21 wz (aI Iw rfl 2 rfl wa (aG 0 0 il ft sz3 ag3 rfl rfl (vI x_5.Y) rfl wa ?_))
       obtain ⟨r_22,hr_23,h_18⟩:=bind_some h_18
       refine aC (bn hr_23) rfl qN rfl rfl rfl rfl wa (aa (vB r_22) (aa (vB r_22) (af ?_)))
       obtain rfl:=ae h_18
       exact cu
     ·rintro ⟨⟩ _ sl_ H_ hp_ hq_
      refine aQ _ hp_ hq_ ?_
      rcases ak hc_9 with⟨hc_24,hc_9⟩|⟨hc_24,hc_9⟩
      ·refine aB rfl hc_24 (aj (aa (vI 1) (af ?_)))
       obtain rfl:=ae hc_9
       obtain rfl:=ae hL_10
       obtain rfl:=ae hF
       exact ay (aK [(vI 1)] ⟨rfl,trivial⟩)
      ·refine aA rfl hc_24 (au ?_)
       obtain ⟨v_25,h_26,hc_9⟩:=bind_some hc_9
       refine aR [(0,(vL Post.enc l_1)),(8,(vL Post.enc l_1)),(9,(vI (l_1.length:Int))),(10,(vI (k_3:Int))),(29,(vB v_25))] [(n_13,some (.cells 3 (Post.v x_5)))] ?_ ?_
       ·refine bL (aa (vI (k_3:Int)) (aa (vB (decide ((k_3:Int)>0))) ?_))
        rcases ak h_26 with⟨hc_27,h_26⟩|⟨hc_27,h_26⟩
        ·refine aD rfl hc_27 wz (aI JK rfl 0 rfl wa (aG 4 0 (.inr (by kernel_rfl)) (λ_ _ ag=>trivial) sz9 ag9 rfl rfl (vS x_5.Player) rfl wa (aJ (vL Post.enc l_1) wa rfl (aJ (vI (k_3:Int)) wa rfl (aJ (vI (w64 ((k_3:Int)-1))) wa rfl ?_)))))
         obtain ⟨y_28,hy_29,h_26⟩:=bind_some h_26
         refine cZ Mj rfl rfl hy_29 rfl wa (qi JK rfl [.str y_28.Player,.int .i64 y_28.X,.int .i64 y_28.Y] rfl rfl wa (bC sz9 ag9 rfl (vS y_28.Player) rfl wa (aJ (vB (sLe x_5.Player y_28.Player)) wa rfl (aa (vB (sLe x_5.Player y_28.Player)) (aa (vB (sLe x_5.Player y_28.Player)) (af ?_))))))
         obtain rfl:=ae h_26
         exact cu
        ·refine aD rfl hc_27 wz (ah (ah (ah (ah (ah (ah (ah (ah (ah (aa (vB false) (aa (vB false) (af ?_))))))))))))
         obtain rfl:=ae h_26
         exact cu
       ·rintro ⟨⟩ _ sl_ H_ hp_ hq_
        refine aQ _ hp_ hq_ ?_
        rcases ak hc_9 with⟨hc_30,hc_9⟩|⟨hc_30,hc_9⟩
        ·refine aB rfl hc_30 (aj (aa (vI 7) (af ?_)))
         obtain rfl:=ae hc_9
         obtain rfl:=ae hL_10
         obtain rfl:=ae hF
         exact ay (aK [(vI 7)] ⟨rfl,trivial⟩)
        ·refine aA rfl hc_30 (ax (av (eY (bD hD_6 hn_7) wz rfl (aa (vI ((k_3+1:Nat):Int)) (af ?_)))))
         obtain rfl:=ae hc_9
         exact aY (k_3+1,l_4,()) ⟨hL_10,aV hD_6⟩ (ls_ _) rfl (aL rfl)
  ·rintro s_8 ho_ sl_ H_ hp_ hq_
   subst ho_
   refine aQ _ hp_ hq_ (aj (aa (vI 0) (af ?_)))
   obtain rfl:=ae hF
   exact ay (aK [(vI 0)] ⟨rfl,trivial⟩)
theorem xI {l_1:(List Alert)} {posts_2:(List Post)} {r:Int} (hF:jR l_1 posts_2=some r) :
  FnM Tryz.prog 61 [(vL Alert.enc l_1),(vL Post.enc posts_2)] [] (vI r) []:=by
 refine FnM.of_wH ⟨Tryz.prog,13,[],[]⟩ rfl Tryz.func61 rfl rfl (lb_ rfl) (by kernel_rfl) ?_
 unfold jR at hF
 refine aj (aa (vI 0) (af (au (aj (aa (vL Alert.enc l_1) ?_)))))
 obtain ⟨r_3,hr_4,hF⟩:=bind_some hF
 refine aC (uZ hr_4) rfl hb91 rfl rfl rfl rfl wz (aa (vI r_3) (af (aj (aa (vI r_3) (aa (vB (r_3 != 0)) (af ?_))))))
 rcases ak hF with⟨hc_5,hF⟩|⟨hc_5,hF⟩
 ·refine aB rfl hc_5 (aj (aa (vI r_3) (aa (vI r_3) (af ?_))))
  obtain rfl:=ae hF
  exact ay (aK [(vI r_3)] ⟨rfl,trivial⟩)
 ·refine aA rfl hc_5 (ax (aj (aa (vL Post.enc posts_2) ?_)))
  obtain ⟨r_6,hr_7,hF⟩:=bind_some hF
  refine aC (wZ hr_7) rfl hb92 rfl rfl rfl rfl wz (aa (vI r_6) (af ?_))
  obtain rfl:=ae hF
  exact ay (aK [(vI r_6)] ⟨rfl,trivial⟩)
theorem xQ {r_1:Rect} {p_2:Post} {r:Bool} (hF:o7 r_1 p_2=some r) :
  FnM Tryz.prog 94 [(.d (.agg (Rect.enc r_1))),(.ref (aF 0) 0 0)] [(.cells 3 (Post.v p_2))] (vB r) [some (.cells 3 (Post.v p_2))]:=by
 refine FnM.of_wH ⟨Tryz.prog,36,[],[]⟩ rfl Tryz.func94 rfl rfl (lb_ rfl) (by kernel_rfl) ?_
 unfold o7 at hF
 refine aj (ik 0 (.inl rfl) (Rect.v r_1) rfl rfl wz (λn_3=>aa (vB false) (af (au ?_))))
 obtain ⟨v_4,h_5,hF⟩:=bind_some hF
 refine aR [(3,(vB v_4))] [((aF 0),some (.cells 3 (Post.v p_2))),(n_3,some (.cells 4 (Rect.v r_1)))] ?_ ?_
 ·refine av (aI zk rfl 0 rfl wz (aG 0 1 il ft sz3 ag3 rfl rfl (vI r_1.X) rfl wz (aI IX rfl 1 rfl wz (aG 0 0 il ft sz3 ag3 rfl rfl (vI p_2.X) rfl wz (aa (vB (decide (r_1.X<=p_2.X))) ?_)))))
  rcases ak h_5 with⟨hc_6,h_5⟩|⟨hc_6,h_5⟩
  ·refine aD rfl hc_6 wz (aI IX rfl 1 rfl wa (aG 0 0 il ft sz3 ag3 rfl rfl (vI p_2.X) rfl wa (aI zk rfl 0 rfl wa (aG 0 1 il ft sz3 ag3 rfl rfl (vI r_1.X) rfl wa (aI Gj rfl 2 rfl wa (aG 0 1 il ft sz3 ag3 rfl rfl (vI r_1.W) rfl wa (aJ (vI (w64 (r_1.X+r_1.W))) wa rfl (aJ (vB (decide (p_2.X<(w64 (r_1.X+r_1.W))))) wa rfl (aa (vB (decide (p_2.X<(w64 (r_1.X+r_1.W))))) ?_)))))))))
   rcases ak h_5 with⟨hc_7,h_5⟩|⟨hc_7,h_5⟩
   ·refine aD rfl hc_7 wz (aI vC rfl 1 rfl wa (aG 0 1 il ft sz3 ag3 rfl rfl (vI r_1.Y) rfl wa (aI Iw rfl 2 rfl wa (aG 0 0 il ft sz3 ag3 rfl rfl (vI p_2.Y) rfl wa (aJ (vB (decide (r_1.Y<=p_2.Y))) wa rfl (aa (vB (decide (r_1.Y<=p_2.Y))) ?_))))))
    rcases ak h_5 with⟨hc_8,h_5⟩|⟨hc_8,h_5⟩
    ·refine aD rfl hc_8 wz (aI Iw rfl 2 rfl wa (aG 0 0 il ft sz3 ag3 rfl rfl (vI p_2.Y) rfl wa (aI vC rfl 1 rfl wa (aG 0 1 il ft sz3 ag3 rfl rfl (vI r_1.Y) rfl wa (aI BQ rfl 3 rfl wa (aG 0 1 il ft sz3 ag3 rfl rfl (vI r_1.H) rfl wa (aJ (vI (w64 (r_1.Y+r_1.H))) wa rfl (aJ (vB (decide (p_2.Y<(w64 (r_1.Y+r_1.H))))) wa rfl (aa (vB (decide (p_2.Y<(w64 (r_1.Y+r_1.H))))) (aa (vB (decide (p_2.Y<(w64 (r_1.Y+r_1.H))))) (af ?_)))))))))))
     obtain rfl:=ae h_5
     exact cu
    ·refine aD rfl hc_8 wz (ah (ah (ah (ah (ah (ah (ah (ah (aa (vB false) (aa (vB false) (af ?_)))))))))))
     obtain rfl:=ae h_5
     exact cu
   ·refine aD rfl hc_7 wz (ah (ah (ah (ah (ah (aa (vB false) (aa (vB false) (ah (ah (ah (ah (ah (ah (ah (ah (aa (vB false) (aa (vB false) (af ?_))))))))))))))))))
    obtain rfl:=ae h_5
    exact cu
  ·refine aD rfl hc_6 wz (ah (ah (ah (ah (ah (ah (ah (ah (aa (vB false) (aa (vB false) (ah (ah (ah (ah (ah (aa (vB false) (aa (vB false) (ah (ah (ah (ah (ah (ah ?_)))))))))))))))))))))))
   refine ah (ah (aa (vB false) (aa (vB false) (af ?_))))
   obtain rfl:=ae h_5
   exact cu
 ·rintro ⟨⟩ _ sl_ H_ hp_ hq_
  refine aQ _ hp_ hq_ ?_
  obtain rfl:=ae hF
  exact ay (y8 (.inr rfl) [(vB v_4)] _ [0] [aF 0] ⟨rfl,trivial⟩ (.cons (ja rfl rfl) (.nil)) (by kernel_rfl) ⟨(by kernel_rfl),trivial⟩ (by decide) (by kernel_rfl))
theorem lu {s_1:(List Rect)} {f_2:Rect->Option Bool} {r:Int} {gid:FuncId} {caps:List V} {Sin:List Box} (hfn:∀x0 r,f_2 x0=some r->FnM Tryz.prog gid ([(.d (.agg (Rect.enc x0)))]++caps) Sin (vB r) (Sin.map some)) (hbF:aH Tryz.prog gid=true) (hcapF:caps.flatMap frz=[]/\caps.map co0=caps) (hokF:okL Sin.length caps=true) (hsF:∀b∈Sin,b.ok Sin.length=true) (hmF:∀b∈Sin,b.mut=true) (hF:fq s_1 f_2=some r) :
  FnM Tryz.prog 115 [(vL Rect.enc s_1),(.fn gid caps)] Sin (vI r) (Sin.map some):=by
 refine FnM.of_wH ⟨Tryz.prog,19,[],[]⟩ rfl Tryz.func115 rfl rfl (lb_ rfl) (by kernel_rfl) ?_
 unfold fq at hF
 refine aj (aa (vI 0) (af (au (aj (aa (vL Rect.enc s_1) (bI zI rfl wz (aa (vI 0) (af ?_))))))))
 obtain ⟨o_11,hj_12,hF⟩:=bind_some hF
 obtain ⟨hn_7,hj_12⟩:=aX hj_12
 refine di (λ(s_8:Unit)=>[]) (λ(s_8:Unit)=>(oJ 0 Sin)) (λ(k_3:Nat)=>(λ(s_8:Unit)=>[(0,(vL Rect.enc s_1)),(1,(.fn gid caps)),(7,(vI (s_1.length:Int))),(8,(vI (k_3:Int)))])) (λk x s=>eH f_2 k x s) o_11 s_1 () hj_12 rfl (BP _) ?_ ?_
 ·rintro ⟨k_3,l_4,s_8⟩ ⟨hL_10,hD_6⟩
  dsimp only at hL_10 hD_6
  cases l_4 with
  | nil =>
   obtain rfl:=ae hL_10
   refine aj (aa (vB (decide ((k_3:Int)<(s_1.length:Int)))) (af ?_))
   refine au (aA rfl (drop_nil hD_6) (bg ?_))
   exact aZ (s_8) rfl rfl (BP _)
  | cons x_5 l_4 =>
   obtain ⟨c_,hc_9,hL_10⟩:=bind_some hL_10
   refine aj (aa (vB (decide ((k_3:Int)<(s_1.length:Int)))) (af ?_))
   refine au (aB rfl (bz hD_6) (ax ?_))
   unfold eH at hc_9
   refine au (aO (aj (aa (vI (k_3:Int)) (aa (vI (k_3:Int)) (af (aj (aa (.fn gid caps) (aa (vL Rect.enc s_1) (aa (vI (k_3:Int)) (cZ FV rfl rfl (bH hD_6) rfl wz (bC vk Gm rfl (.d (.agg (Rect.enc x_5))) rfl wz ?_)))))))))))
   obtain ⟨r_13,hr_14,hc_9⟩:=bind_some hc_9
   refine J2 (hfn _ _ hr_14) rfl hbF rfl rfl hcapF hokF hsF hmF rfl wz rfl (af ?_)
   rcases ak hc_9 with⟨hc_15,hc_9⟩|⟨hc_15,hc_9⟩
   ·refine aB rfl hc_15 (aj (aa (vI (k_3:Int)) (aa (vI (k_3:Int)) (af ?_))))
    obtain rfl:=ae hc_9
    obtain rfl:=ae hL_10
    obtain rfl:=ae hF
    exact ay (finS hsF (.inr rfl) [(vI (k_3:Int))] ⟨rfl,trivial⟩ rfl rfl rfl)
   ·refine aA rfl hc_15 (ax (av (eY (bD hD_6 hn_7) wz rfl (aa (vI ((k_3+1:Nat):Int)) (af ?_)))))
    obtain rfl:=ae hc_9
    exact aY (k_3+1,l_4,()) ⟨hL_10,aV hD_6⟩ (ls_ _) rfl (BP _)
 ·rintro s_8 ho_ sl_ H_ hp_ hq_
  subst ho_
  refine aQ _ hp_ hq_ (aj (aa (vI (-1)) (af ?_)))
  obtain rfl:=ae hF
  exact ay (finS hsF (.inr rfl) [(vI (-1))] ⟨rfl,trivial⟩ rfl rfl rfl)
theorem jX {s_1:(List Rect)} {f_2:Rect->Option Bool} {r:Bool} {gid:FuncId} {caps:List V} {Sin:List Box} (hfn:∀x0 r,f_2 x0=some r->FnM Tryz.prog gid ([(.d (.agg (Rect.enc x0)))]++caps) Sin (vB r) (Sin.map some)) (hbF:aH Tryz.prog gid=true) (hcapF:caps.flatMap frz=[]/\caps.map co0=caps) (hokF:okL Sin.length caps=true) (hsF:∀b∈Sin,b.ok Sin.length=true) (hmF:∀b∈Sin,b.mut=true) (hF:eD s_1 f_2=some r) :
  FnM Tryz.prog 93 [(vL Rect.enc s_1),(.fn gid caps)] Sin (vB r) (Sin.map some):=by
 refine FnM.of_wH ⟨Tryz.prog,9,[],[]⟩ rfl Tryz.func93 rfl rfl (lb_ rfl) (by kernel_rfl) ?_
 unfold eD at hF
 refine aj (aa (vB false) (af (aj (aa (vL Rect.enc s_1) (aa (.fn gid caps) ?_)))))
 obtain ⟨r_3,hr_4,hF⟩:=bind_some hF
 refine J2 (lu (gid:=gid) (caps:=caps) (Sin:=Sin) hfn hbF hcapF hokF hsF hmF hr_4) rfl hb115 rfl rfl ⟨rfl,rfl⟩ (by simp [okL,okV,hokF]) hsF hmF rfl wz rfl (aa (vB (decide (r_3>=0))) (aa (vB (decide (r_3>=0))) (af ?_)))
 obtain rfl:=ae hF
 exact ay (finS hsF (.inr rfl) [(vB (decide (r_3>=0)))] ⟨rfl,trivial⟩ rfl rfl rfl)
theorem zl {a_1:Alert} {p_2:Post} {r:Bool} (hF:oh a_1 p_2=some r) :
  FnM Tryz.prog 62 [(.d (.agg (Alert.enc a_1))),(.d (.agg (Post.enc p_2)))] [] (vB r) []:=by
 refine FnM.of_wH ⟨Tryz.prog,9,[],[]⟩ rfl Tryz.func62 rfl rfl (lb_ rfl) (by kernel_rfl) ?_
 unfold oh at hF
 refine aj (ik 0 (.inl rfl) (Alert.v a_1) rfl rfl wz (λn_3=>ik 0 (.inl rfl) (Post.v p_2) rfl rfl wz (λn_4=>aa (vB false) (af (aj (aI ER rfl 7 rfl wz (aG 0 0 il ft La LV rfl rfl (vL Rect.enc a_1.Areas) rfl wz (aa (.fn 94 [(.ref n_4 0 0)]) ?_))))))))
 obtain ⟨r_5,hr_6,hF⟩:=bind_some hF
 refine dN 0 [1] il ft (jX (gid:=94) (caps:=[.ref (aF 0) 0 0]) (Sin:=[(.cells 3 (Post.v p_2))]) (λ_ _ h_=>xQ h_) hb94 ⟨rfl,rfl⟩ (by kernel_rfl) (all_ok (by kernel_rfl)) (all_mut (by kernel_rfl)) hr_6) rfl hb93 rfl (by kernel_rfl) (by kernel_rfl) (by kernel_rfl) (by kernel_rfl) (by kernel_rfl) (by kernel_rfl) (by kernel_rfl) (by decide) (by kernel_rfl) wz (vB r_5) (by kernel_rfl) ([(n_3,some (.cells 9 (Alert.v a_1))),(n_4,some (.cells 3 (Post.v p_2)))]:Hp) (by kernel_rfl) (aa (vB r_5) (af ?_))
 obtain rfl:=ae hF
 exact ay (aK [(vB r_5)] ⟨rfl,trivial⟩)
theorem zP {a_1:Alert} {p_2:Post} {r:Bool×Int} (hF:lQ a_1 p_2=some r) :
  FnM Tryz.prog 32 [(.d (.agg (Alert.enc a_1))),(.d (.agg (Post.enc p_2)))] [] (.tup [(vB r.1),(vI r.2)]) []:=by
 refine FnM.of_wH ⟨Tryz.prog,18,[],[]⟩ rfl Tryz.func32 rfl rfl (lb_ rfl) (by kernel_rfl) ?_
 unfold lQ at hF
 refine aj (ik 0 (.inl rfl) (Alert.v a_1) rfl rfl wz (λn_3=>ik 0 (.inl rfl) (Post.v p_2) rfl rfl wz (λn_4=>aa (vB false) (aa (vI 0) (af (au (aj (aG 0 0 il ft Ba FC rfl rfl (.d (.agg (Alert.enc a_1))) rfl wz (dW (([a_1]:List Alert).map Alert.enc) KJ ez115 rfl rfl rfl rfl rfl wz (aG 0 1 il ft sz87 ag87 rfl rfl (.d (.agg (Post.enc p_2))) rfl wz (dW (([p_2]:List Post).map Post.enc) Mj ez116 rfl rfl rfl rfl rfl wz ?_)))))))))))
 obtain ⟨r_5,hr_6,hF⟩:=bind_some hF
 refine aC (xI hr_6) rfl hb61 rfl rfl rfl rfl wz (aa (vI r_5) (af (aj (aa (vI r_5) (aa (vB (r_5 != 0)) (af ?_))))))
 rcases ak hF with⟨hc_7,hF⟩|⟨hc_7,hF⟩
 ·refine aB rfl hc_7 (aj (aa (vI r_5) (aa (vB false) (aa (vI r_5) (af ?_)))))
  obtain rfl:=ae hF
  exact ay (aK [(vB false),(vI r_5)] ⟨rfl,⟨rfl,trivial⟩⟩)
 ·refine aA rfl hc_7 (ax (aj (aG 0 0 il ft Ba FC rfl rfl (.d (.agg (Alert.enc a_1))) rfl wz (aG 0 1 il ft sz87 ag87 rfl rfl (.d (.agg (Post.enc p_2))) rfl wz ?_))))
  obtain ⟨r_8,hr_9,hF⟩:=bind_some hF
  refine aC (zl hr_9) rfl hb62 rfl rfl rfl rfl wz (aa (vB r_8) (aa (vI 0) (af ?_)))
  obtain rfl:=ae hF
  exact ay (aK [(vB r_8),(vI 0)] ⟨rfl,⟨rfl,trivial⟩⟩)
theorem FI {l_1:(List Int)} {r:Int} (hF:ww l_1=some r) :
  FnM Tryz.prog 33 [(vL eI l_1)] [] (vI r) []:=by
 refine FnM.of_wH ⟨Tryz.prog,15,[],[]⟩ rfl Tryz.func33 rfl rfl (lb_ rfl) (by kernel_rfl) ?_
 unfold ww at hF
 refine aj (aa (vI 0) (af (au (aj (aa (vL eI l_1) (bI un118 rfl wz (aa (vI 0) (af ?_))))))))
 obtain ⟨o_10,hj_11,hF⟩:=bind_some hF
 obtain ⟨hn_6,hj_11⟩:=aX hj_11
 refine di (λ(s_7:Unit)=>[]) (λ(s_7:Unit)=>[]) (λ(k_2:Nat)=>(λ(s_7:Unit)=>[(5,(vL eI l_1)),(6,(vI (l_1.length:Int))),(7,(vI (k_2:Int)))])) (λk x s=>tN k x s) o_10 l_1 () hj_11 rfl (aL rfl) ?_ ?_
 ·rintro ⟨k_2,l_3,s_7⟩ ⟨hL_9,hD_5⟩
  dsimp only at hL_9 hD_5
  cases l_3 with
  | nil =>
   obtain rfl:=ae hL_9
   refine aj (aa (vB (decide ((k_2:Int)<(l_1.length:Int)))) (af ?_))
   refine au (aA rfl (drop_nil hD_5) (bg ?_))
   exact aZ (s_7) rfl rfl (aL rfl)
  | cons x_4 l_3 =>
   obtain ⟨c_,hc_8,hL_9⟩:=bind_some hL_9
   refine aj (aa (vB (decide ((k_2:Int)<(l_1.length:Int)))) (af ?_))
   refine au (aB rfl (bz hD_5) (ax ?_))
   unfold tN at hc_8
   refine au (aO (aj (cZ es118 rfl rfl (bH hD_5) rfl wz (bC sz28 ag28 rfl (vI x_4) rfl wz (aa (vI x_4) (af (aj (aa (vI x_4) (aa (vB (x_4 != 0)) (af ?_))))))))))
   rcases ak hc_8 with⟨hc_12,hc_8⟩|⟨hc_12,hc_8⟩
   ·refine aB rfl hc_12 (aj (aa (vI x_4) (aa (vI x_4) (af ?_))))
    obtain rfl:=ae hc_8
    obtain rfl:=ae hL_9
    obtain rfl:=ae hF
    exact ay (aK [(vI x_4)] ⟨rfl,trivial⟩)
   ·refine aA rfl hc_12 (ax (av (eY (bD hD_5 hn_6) wz rfl (aa (vI ((k_2+1:Nat):Int)) (af ?_)))))
    obtain rfl:=ae hc_8
    exact aY (k_2+1,l_3,()) ⟨hL_9,aV hD_5⟩ (ls_ _) rfl (aL rfl)
 ·rintro s_7 ho_ sl_ H_ hp_ hq_
  subst ho_
  refine aQ _ hp_ hq_ (aj (aa (vI 0) (af ?_)))
  obtain rfl:=ae hF
  exact ay (aK [(vI 0)] ⟨rfl,trivial⟩)
theorem xu {r:Bool} (hF:mf  = some r) :
  FnM Tryz.prog 10 [] [] (vB r) []:=by
 refine FnM.of_wH ⟨Tryz.prog,75,[],[]⟩ rfl Tryz.func10 rfl rfl (lb_ rfl) (by kernel_rfl) ?_
 unfold mf at hF
 refine aj (aa (vB false) (af (aj (aJ (.d (.agg (Rect.enc (⟨0,0,2,2⟩:Rect)))) wz (by kernel_rfl) (aJ (.d (.agg (Rect.enc (⟨1,1,2,2⟩:Rect)))) wz (by kernel_rfl) (dW (([(⟨0,0,2,2⟩:Rect),(⟨1,1,2,2⟩:Rect)]:List Rect).map Rect.enc) FV ez69 rfl rfl rfl rfl rfl wz ?_))))))
 obtain ⟨r_1,hr_2,hF⟩:=bind_some hF
 refine aC (CJ hr_2) rfl hb28 rfl rfl rfl rfl wz (aa (.tup [(vI r_1.1),(vI r_1.2)]) (aa (vI r_1.1) (aa (vI r_1.2) (aa (vI r_1.1) (aa (vI r_1.2) (af (aj (aJ (.agg [(vS (⟨#[97]⟩:ByteArray)),(vS (⟨#[98]⟩:ByteArray)),(vI 0),(vI 0),(vI 0),(vI 1),(vI 127),.nil,(vI 1),(vI 2),(vI 0),.nil,(vB false)]) wz (by kernel_rfl) (aJ (.d (.agg (Window.enc (⟨0,86400000⟩:Window)))) wz (by kernel_rfl) ?_)))))))))
 obtain ⟨r_3,hr_4,hF⟩:=bind_some hF
 refine aC (y7 hr_4) rfl hb29 rfl rfl rfl rfl wz (aa (.tup [(vL Window.enc r_3.1),(vI r_3.2)]) (aa (vL Window.enc r_3.1) (aa (vI r_3.2) (aa (vL Window.enc r_3.1) (aa (vI r_3.2) (af (aj (aJ (.d (.agg (Window.enc (⟨0,100⟩:Window)))) wz (by kernel_rfl) (aJ (.agg [(vS (⟨#[97]⟩:ByteArray)),(vS (⟨#[]⟩:ByteArray)),(vI 0),(vI 100),.nil,(vI 10),(vI 0),(vI 0)]) wz (by kernel_rfl) ?_)))))))))
 obtain ⟨r_5,hr_6,hF⟩:=bind_some hF
 refine aC (CS hr_6) rfl hb30 rfl rfl rfl rfl wz (aa (.tup [(vI r_5.1),(vI r_5.2)]) (aa (vI r_5.1) (aa (vI r_5.2) (aa (vI r_5.1) (aa (vI r_5.2) (af (aj (aJ (.d (.agg (Beat.enc (⟨(⟨#[112]⟩:ByteArray),0,100⟩:Beat)))) wz (by kernel_rfl) (aJ (.d (.agg (Beat.enc (⟨(⟨#[112]⟩:ByteArray),1000,1300⟩:Beat)))) wz (by kernel_rfl) (dW (([(⟨(⟨#[112]⟩:ByteArray),0,100⟩:Beat),(⟨(⟨#[112]⟩:ByteArray),1000,1300⟩:Beat)]:List Beat).map Beat.enc) Li ez81 rfl rfl rfl rfl rfl wz ?_))))))))))
 obtain ⟨r_7,hr_8,hF⟩:=bind_some hF
 refine aC (Cc hr_8) rfl hb31 rfl rfl rfl rfl wz (aa (.tup [(vI r_7.1),(vI r_7.2)]) (aa (vI r_7.1) (aa (vI r_7.2) (aa (vI r_7.1) (aa (vI r_7.2) (af (aQ (H0:=([]:Hp)) ([(1,(vI r_1.1)),(2,(vI r_1.2)),(3,(vL Window.enc r_3.1)),(4,(vI r_3.2)),(5,(vI r_5.1)),(6,(vI r_5.2)),(7,(vI r_7.1)),(8,(vI r_7.2))]:SL_) (by kernel_rfl) (rE (by kernel_rfl)) (aj (aJ (.d (.agg (Rect.enc (⟨0,0,2,2⟩:Rect)))) wz (by kernel_rfl) (dW (([(⟨0,0,2,2⟩:Rect)]:List Rect).map Rect.enc) FV ez69 rfl rfl rfl rfl rfl wz (aJ (.agg [(vS (⟨#[97]⟩:ByteArray)),(vS (⟨#[115]⟩:ByteArray)),(vI 1),.nil,(vI 0),(vI 5),(vI 1),(vL Rect.enc ([(⟨0,0,2,2⟩:Rect)]:List Rect)),(vS (⟨#[120]⟩:ByteArray))]) wz (by kernel_rfl) (dE 0 (.inl rfl) z83 rfl wz (λn_9=>fo 0 il ft 0 Ba rfl rfl [(vS (⟨#[97]⟩:ByteArray)),(vS (⟨#[115]⟩:ByteArray)),(vI 1),.nil,(vI 0),(vI 5),(vI 1),(vL Rect.enc ([(⟨0,0,2,2⟩:Rect)]:List Rect)),(vS (⟨#[120]⟩:ByteArray))] rfl wz (af (aj (aG 0 0 il ft Ba FC rfl rfl (.agg [(vS (⟨#[97]⟩:ByteArray)),(vS (⟨#[115]⟩:ByteArray)),(vI 1),.nil,(vI 0),(vI 5),(vI 1),(vL Rect.enc ([(⟨0,0,2,2⟩:Rect)]:List Rect)),(vS (⟨#[120]⟩:ByteArray))]) rfl wz (aJ (.d (.agg (Post.enc (⟨(⟨#[112]⟩:ByteArray),1,1⟩:Post)))) wz (by kernel_rfl) ?_)))))))))))))))))
 obtain ⟨r_10,hr_11,hF⟩:=bind_some hF
 refine aC (zP hr_11) rfl hb32 rfl rfl rfl rfl wz (aa (.tup [(vB r_10.1),(vI r_10.2)]) (aa (vB r_10.1) (aa (vI r_10.2) (aa (vB r_10.1) (aa (vI r_10.2) (af (au ?_)))))))
 obtain ⟨v_12,h_13,hF⟩:=bind_some hF
 refine aR [(0,(vB v_12))] [(n_9,some (.cells 9 [(vS (⟨#[97]⟩:ByteArray)),(vS (⟨#[115]⟩:ByteArray)),(vI 1),.nil,(vI 0),(vI 5),(vI 1),(vL Rect.enc ([(⟨0,0,2,2⟩:Rect)]:List Rect)),(vS (⟨#[120]⟩:ByteArray))]))] ?_ ?_
 ·refine av (aa (vI r_1.2) (aa (vI r_3.2) (aa (vI r_5.2) (aa (vI r_7.2) (aa (vI r_10.2) (dW (([r_1.2,r_3.2,r_5.2,r_7.2,r_10.2]:List Int).map eI) es118 ez118 rfl rfl rfl rfl rfl wz ?_))))))
  obtain ⟨r_14,hr_15,h_13⟩:=bind_some h_13
  refine aC (FI hr_15) rfl hb33 rfl rfl rfl rfl wz (aa (vB (r_14==0)) ?_)
  rcases ak h_13 with⟨hc_16,h_13⟩|⟨hc_16,h_13⟩
  ·refine aD rfl hc_16 wz (aJ (vI r_1.1) wa rfl (aJ (vB (r_1.1==7)) wa rfl (aa (vB (r_1.1==7)) ?_)))
   rcases ak h_13 with⟨hc_17,h_13⟩|⟨hc_17,h_13⟩
   ·refine aD rfl hc_17 wz (aJ (vL Window.enc r_3.1) wa rfl (bI un70 rfl wa (aJ (vB ((r_3.1.length:Int)==1)) wa rfl (aa (vB ((r_3.1.length:Int)==1)) ?_))))
    rcases ak h_13 with⟨hc_18,h_13⟩|⟨hc_18,h_13⟩
    ·refine aD rfl hc_18 wz (aJ (vI r_5.1) wa rfl (aJ (vB (r_5.1==5)) wa rfl (aa (vB (r_5.1==5)) ?_)))
     rcases ak h_13 with⟨hc_19,h_13⟩|⟨hc_19,h_13⟩
     ·refine aD rfl hc_19 wz (aJ (vI r_7.1) wa rfl (aJ (vB (r_7.1==500)) wa rfl (aa (vB (r_7.1==500)) ?_)))
      rcases ak h_13 with⟨hc_20,h_13⟩|⟨hc_20,h_13⟩
      ·refine aD rfl hc_20 wz (aJ (vB r_10.1) wa rfl (aa (vB r_10.1) (aa (vB r_10.1) (af ?_))))
       obtain rfl:=ae h_13
       exact cu
      ·refine aD rfl hc_20 wz (ah (aa (vB false) (aa (vB false) (af ?_))))
       obtain rfl:=ae h_13
       exact cu
     ·refine aD rfl hc_19 wz (ah (ah (aa (vB false) (aa (vB false) (ah (aa (vB false) (aa (vB false) (af ?_))))))))
      obtain rfl:=ae h_13
      exact cu
    ·refine aD rfl hc_18 wz (ah (ah (aa (vB false) (aa (vB false) (ah (ah (aa (vB false) (aa (vB false) (ah (aa (vB false) (aa (vB false) (af ?_))))))))))))
     obtain rfl:=ae h_13
     exact cu
   ·refine aD rfl hc_17 wz (ah (ah (ah (aa (vB false) (aa (vB false) (ah (ah (aa (vB false) (aa (vB false) (ah (ah (aa (vB false) (aa (vB false) (ah (aa (vB false) (aa (vB false) (af ?_)))))))))))))))))
    obtain rfl:=ae h_13
    exact cu
  ·refine aD rfl hc_16 wz (ah (ah (aa (vB false) (aa (vB false) (ah (ah (ah (aa (vB false) (aa (vB false) (ah (ah (aa (vB false) (aa (vB false) (ah (ah (aa (vB false) (aa (vB false) (ah (aa (vB false) (aa (vB false) (af ?_)))))))))))))))))))))
   obtain rfl:=ae h_13
   exact cu
 ·rintro ⟨⟩ _ sl_ H_ hp_ hq_
  refine aQ _ hp_ hq_ ?_
  obtain rfl:=ae hF
  exact ay (aK [(vB v_12)] ⟨rfl,trivial⟩)
theorem sQ {l_1:(List Int)} {r:Bool} (hF:jf l_1=some r) :
  FnM Tryz.prog 3 [(vL eI l_1)] [] (vB r) []:=by
 refine FnM.of_wH ⟨Tryz.prog,67,[],[]⟩ rfl Tryz.func3 rfl rfl (lb_ rfl) (by kernel_rfl) ?_
 unfold jf at hF
 refine aj (aa (vB false) (af (aj (aa (vL eI l_1) (aJ (.d (.agg (Stream.enc (⟨l_1,0⟩:Stream)))) wz (by kernel_rfl) (ik 0 (.inl rfl) [(vL eI l_1),(vI 0)] rfl rfl wz (λn_2=>aa (.ref n_2 0 0) (af (aj (aa (.ref n_2 0 0) ?_))))))))))
 obtain ⟨r_3,hr_4,hF⟩:=bind_some hF
 refine dN 0 [0] il ft (lw hr_4) rfl hb4 rfl (by kernel_rfl) (by kernel_rfl) (by kernel_rfl) (by kernel_rfl) (by kernel_rfl) (by kernel_rfl) (by kernel_rfl) (by decide) (by kernel_rfl) wz (vL Entry.enc r_3.1) (by kernel_rfl) ([(n_2,some (.cells 2 [(vL eI r_3.2.L),(vI r_3.2.f_at)]))]:Hp) (by kernel_rfl) (aa (vL Entry.enc r_3.1) (af (aj (aa (vL Entry.enc r_3.1) ?_))))
 obtain ⟨r_6,hr_7,hF⟩:=bind_some hF
 refine aC (sS hr_7) rfl hb5 rfl rfl rfl rfl wz (aa (.tup [(vS r_6.1),(vI r_6.2)]) (aa (vS r_6.1) (aa (vI r_6.2) (aa (vS r_6.1) (aa (vI r_6.2) (af (aj (aa (vS r_6.1) ?_))))))))
 obtain ⟨r_8,hr_9,hF⟩:=bind_some hF
 refine aC (rY hr_9) rfl hb6 rfl rfl rfl rfl wz (aa (.tup [(vL Entry.enc r_8.1),(vI r_8.2.1),(vI r_8.2.2)]) (aa (vL Entry.enc r_8.1) (aa (vI r_8.2.1) (aa (vI r_8.2.2) (aa (vL Entry.enc r_8.1) (aa (vI r_8.2.1) (aa (vI r_8.2.2) (af (au (au ?_))))))))))
 obtain ⟨v_10,h_11,hF⟩:=bind_some hF
 refine aR [(3,(.ref n_2 0 0)),(40,(vB v_10))] [(n_2,some (.cells 2 [(vL eI r_3.2.L),(vI r_3.2.f_at)]))] ?_ ?_
 ·refine av (aa (vI r_6.2) (aa (vB (r_6.2 != 0)) ?_))
  rcases ak h_11 with⟨hc_12,h_11⟩|⟨hc_12,h_11⟩
  ·refine aD rfl hc_12 wz (ah (ah (aa (vB true) (aa (vB true) (ah (ah (ah (ah (aa (vB true) (af ?_))))))))))
   obtain rfl:=ae h_11
   exact cu
  ·refine aD rfl hc_12 wz (aJ (vI r_8.2.2) wa rfl (aJ (vB (r_8.2.2 != 0)) wa rfl (aa (vB (r_8.2.2 != 0)) ?_)))
   rcases ak h_11 with⟨hc_13,h_11⟩|⟨hc_13,h_11⟩
   ·refine aD rfl hc_13 wz (ah (ah (ah (ah (aa (vB true) (af ?_))))))
    obtain rfl:=ae h_11
    exact cu
   ·refine aD rfl hc_13 wz (aJ (vL Entry.enc r_3.1) wa rfl (aJ (vL Entry.enc r_8.1) wa rfl ?_))
    obtain ⟨r_14,hr_15,h_11⟩:=bind_some h_11
    refine aC (fM hr_15) rfl hb7 rfl rfl rfl rfl wa (aJ (vB (!r_14)) wa rfl (aa (vB (!r_14)) (af ?_)))
    obtain rfl:=ae h_11
    exact cu
 ·rintro ⟨⟩ _ sl_ H_ hp_ hq_
  refine aQ _ hp_ hq_ ?_
  rcases ak hF with⟨hc_16,hF⟩|⟨hc_16,hF⟩
  ·refine aB rfl hc_16 (aj (aa (vB false) (af ?_)))
   obtain rfl:=ae hF
   exact ay (aK [(vB false)] ⟨rfl,trivial⟩)
  ·refine aA rfl hc_16 (ax (aj (aa (.ref n_2 0 0) ?_)))
   obtain ⟨r_17,hr_18,hF⟩:=bind_some hF
   refine dN 0 [0] il ft (tq hr_18) rfl hb9 rfl (by kernel_rfl) (by kernel_rfl) (by kernel_rfl) (by kernel_rfl) (by kernel_rfl) (by kernel_rfl) (by kernel_rfl) (by decide) (by kernel_rfl) wz (vS r_17.1) (by kernel_rfl) ([(n_2,some (.cells 2 [(vL eI r_17.2.L),(vI r_17.2.f_at)]))]:Hp) (by kernel_rfl) (aa (vS r_17.1) (af (au (aj (aa (vS r_17.1) ?_)))))
   obtain ⟨r_20,hr_21,hF⟩:=bind_some hF
   refine aC (rY hr_21) rfl hb6 rfl rfl rfl rfl wz (aa (.tup [(vL Entry.enc r_20.1),(vI r_20.2.1),(vI r_20.2.2)]) (aa (vL Entry.enc r_20.1) (aa (vI r_20.2.1) (aa (vI r_20.2.2) (aa (vL Entry.enc r_20.1) (aa (vI r_20.2.2) (af (aj (aa (vI r_20.2.2) (aa (vB (r_20.2.2==0)) (af ?_)))))))))))
   rcases ak hF with⟨hc_22,hF⟩|⟨hc_22,hF⟩
   ·refine aB rfl hc_22 (aj (aa (vL Entry.enc r_20.1) ?_))
    obtain ⟨r_23,hr_24,hF⟩:=bind_some hF
    refine aC (sS hr_24) rfl hb5 rfl rfl rfl rfl wz (aa (.tup [(vS r_23.1),(vI r_23.2)]) (aa (vS r_23.1) (aa (vI r_23.2) (aa (vS r_23.1) (aa (vI r_23.2) (af (au ?_)))))))
    obtain ⟨v_25,h_26,hF⟩:=bind_some hF
    refine aR [(2,(vB v_25))] [(n_2,some (.cells 2 [(vL eI r_17.2.L),(vI r_17.2.f_at)]))] ?_ ?_
    ·refine av (aa (vI r_23.2) (aa (vB (r_23.2==0)) ?_))
     rcases ak h_26 with⟨hc_27,h_26⟩|⟨hc_27,h_26⟩
     ·refine aD rfl hc_27 wz (aJ (vS r_23.1) wa rfl (aJ (vS r_17.1) wa rfl (aJ (vB (sEq r_23.1 r_17.1)) wa rfl (aa (vB (sEq r_23.1 r_17.1)) ?_))))
      rcases ak h_26 with⟨hc_28,h_26⟩|⟨hc_28,h_26⟩
      ·refine aD rfl hc_28 wz ?_
       obtain ⟨r_29,hr_30,h_26⟩:=bind_some h_26
       refine aC (xu hr_30) rfl hb10 rfl rfl rfl rfl wa (aa (vB r_29) (aa (vB r_29) (af ?_)))
       obtain rfl:=ae h_26
       exact cu
      ·refine aD rfl hc_28 wz (ah (aa (vB false) (aa (vB false) (af ?_))))
       obtain rfl:=ae h_26
       exact cu
     ·refine aD rfl hc_27 wz (ah (ah (ah (aa (vB false) (aa (vB false) (ah (aa (vB false) (aa (vB false) (af ?_)))))))))
      obtain rfl:=ae h_26
      exact cu
    ·rintro ⟨⟩ _ sl_ H_ hp_ hq_
     refine aQ _ hp_ hq_ ?_
     obtain rfl:=ae hF
     exact ay (aK [(vB v_25)] ⟨rfl,trivial⟩)
   ·refine aA rfl hc_22 (ax (aj ?_))
    obtain ⟨r_31,hr_32,hF⟩:=bind_some hF
    refine aC (xu hr_32) rfl hb10 rfl rfl rfl rfl wz (aa (vB r_31) (af ?_))
    obtain rfl:=ae hF
    exact ay (aK [(vB r_31)] ⟨rfl,trivial⟩)
end Go.Proofs.YtigdobmllbakiaaGreatDoor.Law

