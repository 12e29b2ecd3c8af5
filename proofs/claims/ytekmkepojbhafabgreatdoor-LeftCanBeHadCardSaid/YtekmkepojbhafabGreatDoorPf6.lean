/-
 The machine computes these plain functions (written by a program of ours).
-/
import Derived.Test.YtekmkepojbhafabGreatDoorFacts
import Derived.Test.YtekmkepojbhafabGreatDoorDefs
import Derived.Test.YtekmkepojbhafabGreatDoorPf5
open Go Go.Eng Go.Proofs
namespace Go.Proofs.YtekmkepojbhafabGreatDoor.Law
set_option maxRecDepth 100000
set_option linter.unusedVariables false
set_option maxHeartbeats 1000000
theorem wS {l_1:(List Int)} {r:Bool} (hF:jo l_1=some r) :
  FnM Tryz.prog 3 [(vL eI l_1)] [] (vB r) []:=by
 refine FnM.of_wH ⟨Tryz.prog,109,[],[]⟩ rfl Tryz.func3 rfl rfl (lb_ rfl) (by kernel_rfl) ?_
 unfold jo at hF
 refine ai (aa (vB false) (ah (ai (aa (vL eI l_1) (aH (.d (.agg (Stream.enc (⟨l_1,0⟩:Stream)))) wz (by kernel_rfl) (gQ 0 (.inl rfl) [(vL eI l_1),(vI 0)] rfl rfl wz (λn_2=>aa (.ref n_2 0 0) (ah (ai (aa (.ref n_2 0 0) ?_))))))))))
 obtain ⟨r_3,hr_4,hF⟩:=bind_some hF
 refine gz 0 [0] il ft (uu hr_4) rfl hb4 rfl (by kernel_rfl) (by kernel_rfl) (by kernel_rfl) (by kernel_rfl) (by kernel_rfl) (by kernel_rfl) (by kernel_rfl) (by decide) (by kernel_rfl) wz (vL Spot.enc r_3.1) (by kernel_rfl) ([(n_2,some (.cells 2 [(vL eI r_3.2.L),(vI r_3.2.f_at)]))]:Hp) (by kernel_rfl) (aa (.ref n_2 0 0) ?_)
 obtain ⟨r_6,hr_7,hF⟩:=bind_some hF
 refine gz 0 [0] il ft (qJ hr_7) rfl hb5 rfl (by kernel_rfl) (by kernel_rfl) (by kernel_rfl) (by kernel_rfl) (by kernel_rfl) (by kernel_rfl) (by kernel_rfl) (by decide) (by kernel_rfl) wz (vL Campaign.enc r_6.1) (by kernel_rfl) ([(n_2,some (.cells 2 [(vL eI r_6.2.L),(vI r_6.2.f_at)]))]:Hp) (by kernel_rfl) (aa (vL Spot.enc r_3.1) (aa (vL Campaign.enc r_6.1) (ah (ai (aH (.d (.agg (Window.enc (⟨0,100⟩:Window)))) wz (by kernel_rfl) (aa (.ref n_2 0 0) (eZ (([1,2,9]:List Int).map eI) ik AA rfl rfl rfl rfl rfl wz ?_)))))))
 obtain ⟨r_9,hr_10,hF⟩:=bind_some hF
 refine gz 0 [0] il ft (eU hr_10) rfl hb6 rfl (by kernel_rfl) (by kernel_rfl) (by kernel_rfl) (by kernel_rfl) (by kernel_rfl) (by kernel_rfl) (by kernel_rfl) (by decide) (by kernel_rfl) wz (vI r_9.1) (by kernel_rfl) ([(n_2,some (.cells 2 [(vL eI r_9.2.L),(vI r_9.2.f_at)]))]:Hp) (by kernel_rfl) (aH (.agg [(vS (⟨#[122,122]⟩:ByteArray)),(vS (⟨#[]⟩:ByteArray)),(vI 0),(vI 100),.nil,(vI 0),(vI r_9.1),(vI 0)]) wz (by kernel_rfl) (dI 0 (.inl rfl) z35 rfl wz (λn_12=>fP 0 il ft 1 pg rfl rfl [(vS (⟨#[122,122]⟩:ByteArray)),(vS (⟨#[]⟩:ByteArray)),(vI 0),(vI 100),.nil,(vI 0),(vI r_9.1),(vI 0)] rfl wz (ah (ai (aa (vL Spot.enc r_3.1) (aa (vL Campaign.enc r_6.1) (aF 0 1 il ft pg xP rfl rfl (.agg [(vS (⟨#[122,122]⟩:ByteArray)),(vS (⟨#[]⟩:ByteArray)),(vI 0),(vI 100),.nil,(vI 0),(vI r_9.1),(vI 0)]) rfl wz ?_))))))))
 obtain ⟨r_13,hr_14,hF⟩:=bind_some hF
 refine aD (Bv hr_14) rfl hb7 rfl rfl rfl rfl wz (aa (.tup [(vI r_13.1),(vI r_13.2)]) (aa (vI r_13.1) (aa (vI r_13.2) (aa (vI r_13.1) (aa (vI r_13.2) (ah (ai (aa (vL Spot.enc r_3.1) (aF 0 1 il ft pg xP rfl rfl (.agg [(vS (⟨#[122,122]⟩:ByteArray)),(vS (⟨#[]⟩:ByteArray)),(vI 0),(vI 100),.nil,(vI 0),(vI r_9.1),(vI 0)]) rfl wz ?_)))))))))
 obtain ⟨r_15,hr_16,hF⟩:=bind_some hF
 refine aD (BC hr_16) rfl hb8 rfl rfl rfl rfl wz (aa (.tup [(vI r_15.1),(vI r_15.2)]) (aa (vI r_15.1) (aa (vI r_15.2) (aa (vI r_15.1) (aa (vI r_15.2) (ah (aO (H0:=([(n_2,some (.cells 2 [(vL eI r_9.2.L),(vI r_9.2.f_at)])),(n_12,some (.cells 8 [(vS (⟨#[122,122]⟩:ByteArray)),(vS (⟨#[]⟩:ByteArray)),(vI 0),(vI 100),.nil,(vI 0),(vI r_9.1),(vI 0)]))]:Hp)) ([(4,(vL Spot.enc r_3.1)),(5,(vL Campaign.enc r_6.1)),(6,(.ref n_12 0 0)),(7,(vI r_13.1)),(8,(vI r_13.2)),(9,(vI r_15.1)),(10,(vI r_15.2))]:SL_) (by kernel_rfl) (sW (by kernel_rfl)) (ak (ai (aa (vI r_13.2) (aa (vB (r_13.2 != 0)) (ah ?_))))))))))))
 rcases aj hF with⟨hc_17,hF⟩|⟨hc_17,hF⟩
 ·refine aB rfl hc_17 (ai (aa (vL Spot.enc r_3.1) (aa (vL Campaign.enc r_6.1) ?_)))
  obtain ⟨r_18,hr_19,hF⟩:=bind_some hF
  refine aD (qP hr_19) rfl hb9 rfl rfl rfl rfl wz (aa (.tup [(vB r_18.1),(vI r_18.2)]) (aa (vB r_18.1) (aa (vI r_18.2) (aa (vB r_18.1) (aa (vI r_18.2) (ah (ak ?_)))))))
  obtain ⟨v_20,h_21,hF⟩:=bind_some hF
  refine aP [(2,(vB v_20))] [(n_2,some (.cells 2 [(vL eI r_9.2.L),(vI r_9.2.f_at)])),(n_12,some (.cells 8 [(vS (⟨#[122,122]⟩:ByteArray)),(vS (⟨#[]⟩:ByteArray)),(vI 0),(vI 100),.nil,(vI 0),(vI r_9.1),(vI 0)]))] ?_ ?_
  ·refine au (aa (vI r_13.2) (aa (vB (r_13.2==12)) ?_))
   rcases aj h_21 with⟨hc_22,h_21⟩|⟨hc_22,h_21⟩
   ·refine aC rfl hc_22 wz (aH (vI r_18.2) wa rfl (aH (vB (r_18.2==0)) wa rfl (aa (vB (r_18.2==0)) ?_)))
    rcases aj h_21 with⟨hc_23,h_21⟩|⟨hc_23,h_21⟩
    ·refine aC rfl hc_23 wz (aH (vB r_18.1) wa rfl (aH (vB (!r_18.1)) wa rfl (aa (vB (!r_18.1)) ?_)))
     rcases aj h_21 with⟨hc_24,h_21⟩|⟨hc_24,h_21⟩
     ·refine aC rfl hc_24 wz ?_
      obtain ⟨r_25,hr_26,h_21⟩:=bind_some h_21
      refine aD (xZ hr_26) rfl hb10 rfl rfl rfl rfl wa (aa (vB r_25) (aa (vB r_25) (ah ?_)))
      obtain rfl:=ae h_21
      exact cu
     ·refine aC rfl hc_24 wz (af (aa (vB false) (aa (vB false) (ah ?_))))
      obtain rfl:=ae h_21
      exact cu
    ·refine aC rfl hc_23 wz (af (af (aa (vB false) (aa (vB false) (af (aa (vB false) (aa (vB false) (ah ?_))))))))
     obtain rfl:=ae h_21
     exact cu
   ·refine aC rfl hc_22 wz (af (af (aa (vB false) (aa (vB false) (af (af (aa (vB false) (aa (vB false) (af (aa (vB false) (aa (vB false) (ah ?_))))))))))))
    obtain rfl:=ae h_21
    exact cu
  ·rintro ⟨⟩ _ sl_ H_ hp_ hq_
   refine aO _ hp_ hq_ ?_
   obtain rfl:=ae hF
   exact ay (aJ [(vB v_20)] ⟨rfl,trivial⟩)
 ·refine aA rfl hc_17 (ax (ai (aa (vI r_13.1) (aG wM rfl 5 rfl wz (fP 0 il ft 1 sz3 rfl rfl [(vS (⟨#[122,122]⟩:ByteArray)),(vS (⟨#[]⟩:ByteArray)),(vI 0),(vI 100),.nil,(vI r_13.1),(vI r_9.1),(vI 0)] rfl wz (ah (ak (bC (aa (vL Spot.enc r_3.1) (aa (vL Campaign.enc r_6.1) ?_))))))))))
  obtain ⟨r_27,hr_28,hF⟩:=bind_some hF
  refine Dm 2 (.inr (by kernel_rfl)) (dJ hr_28) rfl hb11 (by kernel_rfl) (by kernel_rfl) (by kernel_rfl) wz (λn_29=>aF 3 1 (.inr (by kernel_rfl)) (λ_ _ ag=>⟨.inr (.inl (dis1 (Mv ag (i:=1) (j:=2) rfl rfl (by decide)))),trivial⟩) pg xP rfl rfl (.agg [(vS (⟨#[122,122]⟩:ByteArray)),(vS (⟨#[]⟩:ByteArray)),(vI 0),(vI 100),.nil,(vI r_13.1),(vI r_9.1),(vI 0)]) rfl wz (eZ (([(⟨(⟨#[122,122]⟩:ByteArray),(⟨#[]⟩:ByteArray),(⟨0,100⟩:Window),([]:List ByteArray),r_13.1,r_9.1,0⟩:Campaign)]:List Campaign).map Campaign.enc) zU GR rfl rfl rfl rfl rfl wz ?_))
  obtain ⟨a_30,hz_31,hF⟩:=bind_some hF
  refine kY 5 (.inr (by kernel_rfl)) (λ_ _ ag=>⟨.inr (.inr (by kernel_rfl)),⟨.inr (.inr (by kernel_rfl)),trivial⟩⟩) (i:=2) Ei Ei pg z35 rfl (by decide) MR (by decide) (λ_=>rfl) rfl rfl rfl hz_31 wz (λn_32 => ?_)
  obtain ⟨r_33,hr_34,hF⟩:=bind_some hF
  refine si (bs:=[]) (os:=[]) 6 [] 2 1 (.inr (by kernel_rfl)) (λ_ _ ag=>by exact⟨.inr (.inr (by kernel_rfl)),⟨.inr (.inr (by kernel_rfl)),⟨.inr (.inr (by kernel_rfl)),trivial⟩⟩⟩) (FnM.unfzT (args:=[(vL Spot.enc r_3.1),(dV (av 0) 8 a_30)]) (po:=1) (enc:=Campaign.enc) (qP hr_34) (rs:=[.bool r_33.1,.int .i64 r_33.2]) rfl rfl rfl) rfl hb9 rfl rfl rfl (by kernel_rfl) rfl (.inl rfl) rfl (by kernel_rfl) (by kernel_rfl) (by kernel_rfl) (by kernel_rfl) rfl (by decide) (by kernel_rfl) wY (Cn rfl) wz ([(n_2,some (.cells 2 [(vL eI r_9.2.L),(vI r_9.2.f_at)])),(n_12,some (.cells 8 [(vS (⟨#[122,122]⟩:ByteArray)),(vS (⟨#[]⟩:ByteArray)),(vI 0),(vI 100),.nil,(vI r_13.1),(vI r_9.1),(vI 0)])),(n_32,gB 8 Campaign.enc a_30)]:Hp) (by kernel_rfl) (aa (.tup [(vB r_33.1),(vI r_33.2)]) (aa (vB r_33.1) (aa (vI r_33.2) (aa (vB r_33.1) (aa (vI r_33.2) (ah (ai (aa (vI r_13.1) (aa (vI (w64 (r_13.1+1))) (aG wM rfl 5 rfl wz (fP 0 il ft 1 sz3 rfl rfl [(vS (⟨#[122,122]⟩:ByteArray)),(vS (⟨#[]⟩:ByteArray)),(vI 0),(vI 100),.nil,(vI (w64 (r_13.1+1))),(vI r_9.1),(vI 0)] rfl wz (ah (ak (bC (aa (vL Spot.enc r_3.1) (aa (vL Campaign.enc r_6.1) ?_))))))))))))))))
  obtain ⟨r_35,hr_36,hF⟩:=bind_some hF
  refine Dm 2 (.inr (by kernel_rfl)) (dJ hr_36) rfl hb11 (by kernel_rfl) (by kernel_rfl) (by kernel_rfl) wz (λn_37=>aF 3 1 (.inr (by kernel_rfl)) (λ_ _ ag=>⟨.inr (.inl (dis1 (Mv ag (i:=1) (j:=3) rfl rfl (by decide)))),trivial⟩) pg xP rfl rfl (.agg [(vS (⟨#[122,122]⟩:ByteArray)),(vS (⟨#[]⟩:ByteArray)),(vI 0),(vI 100),.nil,(vI (w64 (r_13.1+1))),(vI r_9.1),(vI 0)]) rfl wz (eZ (([(⟨(⟨#[122,122]⟩:ByteArray),(⟨#[]⟩:ByteArray),(⟨0,100⟩:Window),([]:List ByteArray),(w64 (r_13.1+1)),r_9.1,0⟩:Campaign)]:List Campaign).map Campaign.enc) zU GR rfl rfl rfl rfl rfl wz ?_))
  obtain ⟨a_38,hz_39,hF⟩:=bind_some hF
  refine kY 5 (.inr (by kernel_rfl)) (λ_ _ ag=>⟨.inr (.inr (by kernel_rfl)),⟨.inr (.inr (by kernel_rfl)),trivial⟩⟩) (i:=3) Ei Ei pg z35 rfl (by decide) MR (by decide) (λ_=>rfl) rfl rfl rfl hz_39 wz (λn_40 => ?_)
  obtain ⟨r_41,hr_42,hF⟩:=bind_some hF
  refine si (bs:=[]) (os:=[]) 6 [] 3 1 (.inr (by kernel_rfl)) (λ_ _ ag=>by exact⟨.inr (.inr (by kernel_rfl)),⟨.inr (.inr (by kernel_rfl)),⟨.inr (.inr (by kernel_rfl)),trivial⟩⟩⟩) (FnM.unfzT (args:=[(vL Spot.enc r_3.1),(dV (av 0) 8 a_38)]) (po:=1) (enc:=Campaign.enc) (qP hr_42) (rs:=[.bool r_41.1,.int .i64 r_41.2]) rfl rfl rfl) rfl hb9 rfl rfl rfl (by kernel_rfl) rfl (.inl rfl) rfl (by kernel_rfl) (by kernel_rfl) (by kernel_rfl) (by kernel_rfl) rfl (by decide) (by kernel_rfl) wY (Cn rfl) wz ([(n_2,some (.cells 2 [(vL eI r_9.2.L),(vI r_9.2.f_at)])),(n_12,some (.cells 8 [(vS (⟨#[122,122]⟩:ByteArray)),(vS (⟨#[]⟩:ByteArray)),(vI 0),(vI 100),.nil,(vI (w64 (r_13.1+1))),(vI r_9.1),(vI 0)])),(n_32,gB 8 Campaign.enc a_30),(n_40,gB 8 Campaign.enc a_38)]:Hp) (by kernel_rfl) (aa (.tup [(vB r_41.1),(vI r_41.2)]) (aa (vB r_41.1) (aa (vI r_41.2) (aa (vB r_41.1) (aa (vI r_41.2) (ah (aO (H0:=([(n_2,some (.cells 2 [(vL eI r_9.2.L),(vI r_9.2.f_at)])),(n_12,some (.cells 8 [(vS (⟨#[122,122]⟩:ByteArray)),(vS (⟨#[]⟩:ByteArray)),(vI 0),(vI 100),.nil,(vI (w64 (r_13.1+1))),(vI r_9.1),(vI 0)])),(n_32,gB 8 Campaign.enc a_30),(n_40,gB 8 Campaign.enc a_38)]:Hp)) ([(7,(vI r_13.1)),(9,(vI r_15.1)),(10,(vI r_15.2)),(13,(vB r_33.1)),(14,(vI r_33.2)),(15,(vB r_41.1)),(16,(vI r_41.2))]:SL_) (by kernel_rfl) (sW (by kernel_rfl)) (ak ?_))))))))
  obtain ⟨v_43,h_44,hF⟩:=bind_some hF
  refine j4 (β:=Nm×Nm) (λp=>(λ(n_45:Nm) (n_46:Nm)=>([(2,(vB v_43))]:SL_)) p.1 p.2) (λp=>(λ(n_45:Nm) (n_46:Nm)=>([(n_2,some (.cells 2 [(vL eI r_9.2.L),(vI r_9.2.f_at)])),(n_12,some (.cells 8 [(vS (⟨#[122,122]⟩:ByteArray)),(vS (⟨#[]⟩:ByteArray)),(vI 0),(vI 100),.nil,(vI (w64 (r_13.1+1))),(vI r_9.1),(vI 0)])),(n_45,gB 8 Campaign.enc a_30),(n_46,gB 8 Campaign.enc a_38)]:Hp)) p.1 p.2) (λ_=>True) ?_ ?_
  ·refine au (aa (vI r_15.2) (aa (vI r_33.2) (aa (vI r_41.2) (eZ (([r_15.2,r_33.2,r_41.2]:List Int).map eI) es77 ez77 rfl rfl rfl rfl rfl wz ?_))))
   obtain ⟨r_47,hr_48,h_44⟩:=bind_some h_44
   refine aD (zq hr_48) rfl hb12 rfl rfl rfl rfl wz (aa (vB (r_47==0)) ?_)
   rcases aj h_44 with⟨hc_49,h_44⟩|⟨hc_49,h_44⟩
   ·refine aC rfl hc_49 wz (aH (vI r_13.1) wa rfl (aH (vI r_15.1) wa rfl (aH (vB (decide (r_13.1<=r_15.1))) wa rfl (aa (vB (decide (r_13.1<=r_15.1))) ?_))))
    rcases aj h_44 with⟨hc_50,h_44⟩|⟨hc_50,h_44⟩
    ·refine aC rfl hc_50 wz (aH (vB r_33.1) wa rfl (aa (vB r_33.1) ?_))
     rcases aj h_44 with⟨hc_51,h_44⟩|⟨hc_51,h_44⟩
     ·refine aC rfl hc_51 wz (aH (vB r_41.1) wa rfl (aH (vB (!r_41.1)) wa rfl (aa (vB (!r_41.1)) ?_)))
      rcases aj h_44 with⟨hc_52,h_44⟩|⟨hc_52,h_44⟩
      ·refine aC rfl hc_52 wz ?_
       obtain ⟨r_53,hr_54,h_44⟩:=bind_some h_44
       refine aD (xZ hr_54) rfl hb10 rfl rfl rfl rfl wa (aa (vB r_53) (aa (vB r_53) (ah ?_)))
       obtain rfl:=ae h_44
       exact aU (n_32,n_40) trivial rfl (aK rfl)
      ·refine aC rfl hc_52 wz (af (aa (vB false) (aa (vB false) (ah ?_))))
       obtain rfl:=ae h_44
       exact aU (n_32,n_40) trivial rfl (aK rfl)
     ·refine aC rfl hc_51 wz (af (af (aa (vB false) (aa (vB false) (af (aa (vB false) (aa (vB false) (ah ?_))))))))
      obtain rfl:=ae h_44
      exact aU (n_32,n_40) trivial rfl (aK rfl)
    ·refine aC rfl hc_50 wz (af (aa (vB false) (aa (vB false) (af (af (aa (vB false) (aa (vB false) (af (aa (vB false) (aa (vB false) (ah ?_)))))))))))
     obtain rfl:=ae h_44
     exact aU (n_32,n_40) trivial rfl (aK rfl)
   ·refine aC rfl hc_49 wz (af (af (af (aa (vB false) (aa (vB false) (af (aa (vB false) (aa (vB false) (af (af (aa (vB false) (aa (vB false) (af (aa (vB false) (aa (vB false) (ah ?_))))))))))))))))
    obtain rfl:=ae h_44
    exact aU (n_32,n_40) trivial rfl (aK rfl)
  ·rintro ⟨n_45,n_46⟩ _ sl_ H_ hp_ hq_
   refine aO _ hp_ hq_ ?_
   obtain rfl:=ae hF
   exact ay (aJ [(vB v_43)] ⟨rfl,trivial⟩)
end Go.Proofs.YtekmkepojbhafabGreatDoor.Law

