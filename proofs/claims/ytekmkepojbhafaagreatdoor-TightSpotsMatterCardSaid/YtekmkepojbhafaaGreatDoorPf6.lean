/-
 The machine computes these plain functions (written by a program of ours).
-/
import Derived.Test.YtekmkepojbhafaaGreatDoorFacts
import Derived.Test.YtekmkepojbhafaaGreatDoorDefs
import Derived.Test.YtekmkepojbhafaaGreatDoorPf5
open Go Go.Eng Go.Proofs
namespace Go.Proofs.YtekmkepojbhafaaGreatDoor.Law
set_option maxRecDepth 100000
set_option linter.unusedVariables false
set_option maxHeartbeats 1000000
theorem rT {l_1:(List Int)} {r:Bool} (hF:ja l_1=some r) :
  FnM Tryz.prog 3 [(vL eI l_1)] [] (vB r) []:=by
 refine FnM.of_wH ⟨Tryz.prog,95,[],[]⟩ rfl Tryz.func3 rfl rfl (lb_ rfl) (by kernel_rfl) ?_
 unfold ja at hF
 refine ai (aa (vB false) (ah (ai (aa (vL eI l_1) (aG (.d (.agg (Stream.enc (⟨l_1,0⟩:Stream)))) wz (by kernel_rfl) (iX 0 (.inl rfl) [(vL eI l_1),(vI 0)] rfl rfl wz (λn_2=>aa (.ref n_2 0 0) (ah (ai (aa (.ref n_2 0 0) ?_))))))))))
 obtain ⟨r_3,hr_4,hF⟩:=bind_some hF
 refine iq 0 [0] il ft (sF hr_4) rfl hb4 rfl (by kernel_rfl) (by kernel_rfl) (by kernel_rfl) (by kernel_rfl) (by kernel_rfl) (by kernel_rfl) (by kernel_rfl) (by decide) (by kernel_rfl) wz (vL Spot.enc r_3.1) (by kernel_rfl) ([(n_2,some (.cells 2 [(vL eI r_3.2.L),(vI r_3.2.f_at)]))]:Hp) (by kernel_rfl) (aa (.ref n_2 0 0) ?_)
 obtain ⟨r_6,hr_7,hF⟩:=bind_some hF
 refine iq 0 [0] il ft (qx hr_7) rfl hb5 rfl (by kernel_rfl) (by kernel_rfl) (by kernel_rfl) (by kernel_rfl) (by kernel_rfl) (by kernel_rfl) (by kernel_rfl) (by decide) (by kernel_rfl) wz (vL Campaign.enc r_6.1) (by kernel_rfl) ([(n_2,some (.cells 2 [(vL eI r_6.2.L),(vI r_6.2.f_at)]))]:Hp) (by kernel_rfl) (aa (vL Spot.enc r_3.1) (aa (vL Campaign.enc r_6.1) (ah (ai (aa (vL Spot.enc r_3.1) (aa (vL Campaign.enc r_6.1) ?_))))))
 obtain ⟨r_9,hr_10,hF⟩:=bind_some hF
 refine aD (zZ hr_10) rfl hb6 rfl rfl rfl rfl wz (aa (.tup [(vL eS r_9.1),(vI r_9.2)]) (aa (vL eS r_9.1) (aa (vI r_9.2) (aa (vL eS r_9.1) (aa (vI r_9.2) (ah (ai (aa (vL Spot.enc r_3.1) (aa (vL Campaign.enc r_6.1) ?_)))))))))
 obtain ⟨r_11,hr_12,hF⟩:=bind_some hF
 refine aD (uW hr_12) rfl hb7 rfl rfl rfl rfl wz (aa (.tup [(vI r_11.1),(vI r_11.2)]) (aa (vI r_11.1) (aa (vI r_11.2) (aa (vI r_11.1) (aa (vI r_11.2) (ah (ak (ak ?_))))))))
 obtain ⟨v_13,h_14,hF⟩:=bind_some hF
 refine aP [(4,(vL Spot.enc r_3.1)),(5,(vL Campaign.enc r_6.1)),(6,(vL eS r_9.1)),(8,(vI r_11.1)),(39,(vB v_13))] [(n_2,some (.cells 2 [(vL eI r_6.2.L),(vI r_6.2.f_at)]))] ?_ ?_
 ·refine au (aa (vI r_9.2) (aa (vB (r_9.2 != 0)) ?_))
  rcases aj h_14 with⟨hc_15,h_14⟩|⟨hc_15,h_14⟩
  ·refine aC rfl hc_15 wz (af (af (aa (vB true) (ah ?_))))
   obtain rfl:=ae h_14
   exact cu
  ·refine aC rfl hc_15 wz (aG (vI r_11.2) wa rfl (aG (vB (r_11.2 != 0)) wa rfl (aa (vB (r_11.2 != 0)) (ah ?_))))
   obtain rfl:=ae h_14
   exact cu
 ·rintro ⟨⟩ _ sl_ H_ hp_ hq_
  refine aO _ hp_ hq_ ?_
  rcases aj hF with⟨hc_16,hF⟩|⟨hc_16,hF⟩
  ·refine aB rfl hc_16 (ai (aa (vB false) (ah ?_)))
   obtain rfl:=ae hF
   exact aA (aK [(vB false)] ⟨rfl,trivial⟩)
  ·refine ay rfl hc_16 (ax (ak (ai (aa (vL Spot.enc r_3.1) (bQ G7 rfl wz (aa (vI 0) (ah ?_)))))))
   obtain ⟨o_25,hj_26,hF⟩:=bind_some hF
   obtain ⟨hn_21,hj_26⟩:=bn hj_26
   refine cz (λ(s_22:Unit)=>[]) (λ(s_22:Unit)=>[(n_2,some (.cells 2 [(vL eI r_6.2.L),(vI r_6.2.f_at)]))]) (λ(k_17:Nat)=>(λ(s_22:Unit)=>[(4,(vL Spot.enc r_3.1)),(5,(vL Campaign.enc r_6.1)),(6,(vL eS r_9.1)),(8,(vI r_11.1)),(40,(vL Spot.enc r_3.1)),(41,(vI (r_3.1.length:Int))),(42,(vI (k_17:Int)))])) (λk x s=>fe r_3 r_6 r_11 r_9 k x s) o_25 r_3.1 () hj_26 rfl (aJ rfl) ?_ ?_
   ·rintro ⟨k_17,l_18,s_22⟩ ⟨hL_24,hD_20⟩
    dsimp only at hL_24 hD_20
    cases l_18 with
    | nil =>
     obtain rfl:=ae hL_24
     refine ai (aa (vB (decide ((k_17:Int)<(r_3.1.length:Int)))) (ah ?_))
     refine ak (ay rfl (drop_nil hD_20) (aW ?_))
     exact aU (s_22) rfl rfl (aJ rfl)
    | cons x_19 l_18 =>
     obtain ⟨c_,hc_23,hL_24⟩:=bind_some hL_24
     refine ai (aa (vB (decide ((k_17:Int)<(r_3.1.length:Int)))) (ah ?_))
     refine ak (aB rfl (bz hD_20) (ax ?_))
     unfold fe at hc_23
     refine ak (aN (ai (aa (vI (k_17:Int)) (dJ AO rfl rfl (bK hD_20) rfl wz (bN ym IM rfl (.d (.agg (Spot.enc x_19))) rfl wz (dG 0 (.inl rfl) z39 rfl wz (λn_27=>aa (vI (k_17:Int)) (gG 0 il ft 1 ym rfl rfl (Spot.v x_19) rfl wz (ah (ai (aa (vL Spot.enc r_3.1) ?_)))))))))))
     obtain ⟨r_28,hr_29,hc_23⟩:=bind_some hc_23
     refine Fe [] (iW hr_29) rfl hb8 rfl (by kernel_rfl) (by kernel_rfl) (by kernel_rfl) (by kernel_rfl) (by kernel_rfl) rfl (by decide) (by kernel_rfl) wz ([(n_2,some (.cells 2 [(vL eI r_6.2.L),(vI r_6.2.f_at)])),(n_27,some (.cells 5 (Spot.v x_19)))]:Hp) (λ_=>by kernel_rfl) (λn_31=>aa (gV n_31 5 r_28) (ah (ai (aa (gV n_31 5 r_28) (aa (vI (k_17:Int)) ?_)))))
     obtain ⟨_,hi_32,hc_23⟩:=bind_some hc_23
     refine kI AO rfl rfl (ib hi_32) (eG hi_32) wz (aH vM rfl 3 rfl wz ?_)
     obtain ⟨e_33,hy_34,hc_23⟩:=bind_some hc_23
     refine pW 0 2 il ft sz3 ag3 rfl rfl hy_34 (vI e_33.Room) rfl wz (aa (vI (w64 (e_33.Room+1))) ?_)
     obtain ⟨_,hi_35,hc_23⟩:=bind_some hc_23
     refine kI AO rfl rfl (ib hi_35) (eG hi_35) wz (aH vM rfl 3 rfl wz ?_)
     obtain ⟨e_36,hy_37,hc_23⟩:=bind_some hc_23
     refine xV 0 il ft 2 sz3 rfl rfl hy_37 (⟨e_36.Key,e_36.Time,(w64 (e_33.Room+1)),e_36.Tags⟩:Spot) rfl wz (iZ (v':=(gV n_31 5 (r_28.set (0+((k_17:Int)).toNat) (⟨e_36.Key,e_36.Time,(w64 (e_33.Room+1)),e_36.Tags⟩:Spot)))) 12 rfl (lC (by simp)) (iZ (v':=(gV n_31 5 (r_28.set (0+((k_17:Int)).toNat) (⟨e_36.Key,e_36.Time,(w64 (e_33.Room+1)),e_36.Tags⟩:Spot)))) 48 rfl (lC (by simp)) (iZ (v':=(gV n_31 5 (r_28.set (0+((k_17:Int)).toNat) (⟨e_36.Key,e_36.Time,(w64 (e_33.Room+1)),e_36.Tags⟩:Spot)))) 49 rfl (lC (by simp)) (ah (ak (gX 2 rfl (d9 12 2 rfl rfl (d9 48 2 rfl rfl (d9 49 2 rfl rfl (au (aa (vL Spot.enc (r_28.set (0+((k_17:Int)).toNat) (⟨e_36.Key,e_36.Time,(w64 (e_33.Room+1)),e_36.Tags⟩:Spot))) (aa (vL Campaign.enc r_6.1) ?_))))))))))))
     obtain ⟨r_38,hr_39,hc_23⟩:=bind_some hc_23
     refine aD (uW hr_39) rfl hb7 rfl rfl rfl rfl wz (aa (.tup [(vI r_38.1),(vI r_38.2)]) (aa (vI r_38.1) (aa (vI r_38.2) (aa (vI r_38.1) (aa (vI r_38.2) (ah (ak ?_)))))))
     obtain ⟨v_40,h_41,hc_23⟩:=bind_some hc_23
     refine aP [(4,(vL Spot.enc r_3.1)),(5,(vL Campaign.enc r_6.1)),(6,(vL eS r_9.1)),(8,(vI r_11.1)),(40,(vL Spot.enc r_3.1)),(41,(vI (r_3.1.length:Int))),(42,(vI (k_17:Int))),(92,(vB v_40))] [(n_2,some (.cells 2 [(vL eI r_6.2.L),(vI r_6.2.f_at)])),(n_27,some (.cells 5 (Spot.v x_19))),(n_31,gF 5 Spot.enc (r_28.set (0+((k_17:Int)).toNat) (⟨e_36.Key,e_36.Time,(w64 (e_33.Room+1)),e_36.Tags⟩:Spot)))] ?_ ?_
     ·refine au (aa (vI r_38.2) (aa (vB (r_38.2 != 0)) ?_))
      rcases aj h_41 with⟨hc_42,h_41⟩|⟨hc_42,h_41⟩
      ·refine aC rfl hc_42 wz (af (af (af (aa (vB true) (aa (vB true) (af (af (af (af (aa (vB true) (aa (vB true) (af (af (af (af (aZ (wn rfl rfl) (aZ (wn rfl rfl) (aZ (wn rfl rfl) (af (af (aZ (wn rfl rfl) (aZ (wn rfl rfl) (aZ (wn rfl rfl) ?_)))))))))))))))))))))))
       refine aZ (wn rfl rfl) (aZ (wn rfl rfl) (af (aa (vB true) (ah ?_))))
       obtain rfl:=ae h_41
       exact cu
      ·refine aC rfl hc_42 wz (aG (vI r_38.1) wa rfl (aG (vI r_11.1) wa rfl (aG (vB (decide (r_38.1<r_11.1))) wa rfl (aa (vB (decide (r_38.1<r_11.1))) ?_))))
       rcases aj h_41 with⟨hc_43,h_41⟩|⟨hc_43,h_41⟩
       ·refine aC rfl hc_43 wz (af (af (af (af (aa (vB true) (aa (vB true) (af (af (af (af (aZ (wn rfl rfl) (aZ (wn rfl rfl) (aZ (wn rfl rfl) (af (af (aZ (wn rfl rfl) (aZ (wn rfl rfl) (aZ (wn rfl rfl) (aZ (wn rfl rfl) (aZ (wn rfl rfl) (af (aa (vB true) (ah ?_)))))))))))))))))))))))
        obtain rfl:=ae h_41
        exact cu
       ·refine aC rfl hc_43 wz (aG (vI r_38.1) wa rfl (aG (vI r_11.1) wa rfl (aG (vI (w64 (r_11.1+1))) wa rfl (aG (vB (decide (r_38.1>(w64 (r_11.1+1))))) wa rfl (aa (vB (decide (r_38.1>(w64 (r_11.1+1))))) ?_)))))
        rcases aj h_41 with⟨hc_44,h_41⟩|⟨hc_44,h_41⟩
        ·refine aC rfl hc_44 wz (af (af (af (af (aZ (wn rfl rfl) (aZ (wn rfl rfl) (aZ (wn rfl rfl) (af (af (aZ (wn rfl rfl) (aZ (wn rfl rfl) (aZ (wn rfl rfl) (aZ (wn rfl rfl) (aZ (wn rfl rfl) (af (aa (vB true) (ah ?_)))))))))))))))))
         obtain rfl:=ae h_41
         exact cu
        ·refine aC rfl hc_44 wz (aG (vI r_38.1) wa rfl (aG (vI r_11.1) wa rfl (aG (vB (decide (r_38.1>r_11.1))) wa rfl ?_)))
         rcases aj h_41 with⟨hc_45,h_41⟩|⟨hc_45,h_41⟩
         ·refine aC rfl hc_45 wa (aH vM rfl 3 rfl wa (aF 0 1 il ft sz3 ag3 rfl rfl (vI x_19.Room) rfl wa (aG (vB (decide (x_19.Room>0))) wa rfl (aG (vB (decide (x_19.Room>0))) wa rfl ?_))))
          rcases aj h_41 with⟨hc_46,h_41⟩|⟨hc_46,h_41⟩
          ·refine aC rfl hc_46 wa (aG (vL eS r_9.1) wa rfl (aH BF rfl 0 rfl wa (aF 0 1 il ft sz9 ag9 rfl rfl (vS x_19.Key) rfl wa ?_)))
           obtain ⟨r_47,hr_48,h_41⟩:=bind_some h_41
           refine aD (nL hr_48) rfl hb9 rfl rfl rfl rfl wa (aG (vB (!r_47)) wa rfl (aG (vB (!r_47)) wa rfl (aa (vB (!r_47)) (ah ?_))))
           obtain rfl:=ae h_41
           exact cu
          ·refine aC rfl hc_46 wa (af (af (af (af (af (aG (vB false) wa rfl (aa (vB false) (ah ?_))))))))
           obtain rfl:=ae h_41
           exact cu
         ·refine aC rfl hc_45 wa (af (af (af (aG (vB false) wa rfl (aG (vB false) wa rfl (af (af (af (af (af (aG (vB false) wa rfl (aa (vB false) (ah ?_)))))))))))))
          obtain rfl:=ae h_41
          exact cu
     ·rintro ⟨⟩ _ sl_ H_ hp_ hq_
      refine aO _ hp_ hq_ ?_
      rcases aj hc_23 with⟨hc_49,hc_23⟩|⟨hc_49,hc_23⟩
      ·refine aB rfl hc_49 (ai (aa (vB false) (ah ?_)))
       obtain rfl:=ae hc_23
       obtain rfl:=ae hL_24
       obtain rfl:=ae hF
       exact aA (aK [(vB false)] ⟨rfl,trivial⟩)
      ·refine ay rfl hc_49 (ax (au (eF (bA hD_20 hn_21) wz rfl (aa (vI ((k_17+1:Nat):Int)) (ah ?_)))))
       obtain rfl:=ae hc_23
       exact aV (k_17+1,l_18,()) ⟨hL_24,aX hD_20⟩ (ls_ _) rfl (aJ rfl)
   ·rintro s_22 ho_ sl_ H_ hp_ hq_
    subst ho_
    refine aO _ hp_ hq_ (ai ?_)
    obtain ⟨r_50,hr_51,hF⟩:=bind_some hF
    refine aD (DI hr_51) rfl hb10 rfl rfl rfl rfl wz (aa (vB r_50) (ah ?_))
    obtain rfl:=ae hF
    exact aA (aK [(vB r_50)] ⟨rfl,trivial⟩)
end Go.Proofs.YtekmkepojbhafaaGreatDoor.Law

