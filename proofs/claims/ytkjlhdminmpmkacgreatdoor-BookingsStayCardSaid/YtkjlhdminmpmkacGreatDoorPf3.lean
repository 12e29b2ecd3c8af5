/-
 The machine computes these plain functions (written by a program of ours).
-/
import Derived.Test.YtkjlhdminmpmkacGreatDoorFacts
import Derived.Test.YtkjlhdminmpmkacGreatDoorDefs
import Derived.Test.YtkjlhdminmpmkacGreatDoorPf2
open Go Go.Eng Go.Proofs
namespace Go.Proofs.YtkjlhdminmpmkacGreatDoor.Law
set_option maxRecDepth 100000
set_option linter.unusedVariables false
set_option maxHeartbeats 1000000
theorem tN {l_1:(List Share)} {r:(List Share)} (hF:iJ l_1=some r) :
  FnM Tryz.prog 8 [(dV (av 0) 3 l_1)] (([]:List Box)++gI 3 Share.enc l_1) (.tup []) (([]:List Box).map some++gT l_1 (gB 3 Share.enc r)):=by
 refine FnM.of_wHv ⟨Tryz.prog,14,[],[]⟩ rfl Tryz.func8 rfl rfl (lb_ rfl) (by kernel_rfl) ?_
 unfold iJ at hF
 refine ai (cz 0 (.inl rfl) z38 rfl wz (λn_2=>af (ai (aa (dV (av 0) 3 l_1) (Co un32 rfl wz (aa (vI 0) (af ?_)))))))
 obtain ⟨o_11,hj_12,hF⟩:=bind_some hF
 obtain ⟨hn_7,hj_12⟩:=aY hj_12
 refine bN (λ(s_8:List Share)=>[]) (λ(s_8:List Share)=>[((av 0),gB 3 Share.enc s_8),(n_2,some (.cells 3 [(vS (⟨#[]⟩:ByteArray)),(vS (⟨#[]⟩:ByteArray)),(vI 0)]))]) (λ(k_3:Nat)=>(λ(s_8:List Share)=>[(0,(dV (av 0) 3 s_8)),(2,(.ref n_2 0 0)),(5,(vI (l_1.length:Int))),(6,(vI (k_3:Int)))])) (λk x s=>gu k x s) o_11 (List.range ((l_1.length:Int)).toNat) l_1 hj_12 rfl (aK rfl) ?_ ?_
 ·rintro ⟨k_3,l_4,s_8⟩ ⟨hL_10,hD_6⟩
  dsimp only at hL_10 hD_6
  cases l_4 with
  | nil =>
   obtain rfl:=ae hL_10
   refine ai (aa (vB (decide ((k_3:Int)<(l_1.length:Int)))) (af ?_))
   refine ak (ay rfl (oV hD_6) (aW ?_))
   exact aU (s_8) rfl rfl (aK rfl)
  | cons x_5 l_4 =>
   obtain ⟨c_,hc_9,hL_10⟩:=bind_some hL_10
   refine ai (aa (vB (decide ((k_3:Int)<(l_1.length:Int)))) (af ?_))
   refine ak (aB rfl (mP hD_6) (ax ?_))
   unfold gu at hc_9
   refine ak (aM (ai (aa (vI (k_3:Int)) (aa (vI (k_3:Int)) (af (au (aa (dV (av 0) 3 s_8) (aa (vI (k_3:Int)) (aC 0 1 il ft sz38 ag38 rfl rfl (.d (.agg (Share.enc (⟨(⟨#[]⟩:ByteArray),(⟨#[]⟩:ByteArray),0⟩:Share)))) rfl wz ?_)))))))))
   obtain ⟨_,hi_13,hc_9⟩:=bind_some hc_9
   refine tT es32 rfl rfl (gp hi_13) (dK hi_13) wz ?_
   obtain ⟨e_14,hy_15,hc_9⟩:=bind_some hc_9
   refine wI 0 il ft 0 sz38 rfl rfl hy_15 (⟨(⟨#[]⟩:ByteArray),(⟨#[]⟩:ByteArray),0⟩:Share) rfl wz (gG (v':=(dV (av 0) 3 (s_8.set (0+((k_3:Int)).toNat) (⟨(⟨#[]⟩:ByteArray),(⟨#[]⟩:ByteArray),0⟩:Share)))) 0 rfl (j4 (by simp)) (gG (v':=(dV (av 0) 3 (s_8.set (0+((k_3:Int)).toNat) (⟨(⟨#[]⟩:ByteArray),(⟨#[]⟩:ByteArray),0⟩:Share)))) 9 rfl (j4 (by simp)) (af (au (dB (oO hD_6 hn_7) wz rfl (aa (vI ((k_3+1:Nat):Int)) (af ?_)))))))
   obtain rfl:=ae hc_9
   exact aV (k_3+1,l_4,(s_8.set (0+((k_3:Int)).toNat) (⟨(⟨#[]⟩:ByteArray),(⟨#[]⟩:ByteArray),0⟩:Share))) ⟨hL_10,aR hD_6⟩ (ls_ _) rfl (aK rfl)
 ·rintro s_8 ho_ sl_ H_ hp_ hq_
  subst ho_
  show tX _ _ _ _ _ _ _ _
  obtain rfl:=ae hF
  exact Ap (H0:=([((av 0),gB 3 Share.enc s_8),(n_2,some (.cells 3 [(vS (⟨#[]⟩:ByteArray)),(vS (⟨#[]⟩:ByteArray)),(vI 0)]))]:Hp)) (sl':=envS []) hq_ (FK (bs:=([]:List Box)) (os:=([]:List Box)) (xs:=l_1) (o:=gB 3 Share.enc s_8) (.inl rfl) [] trivial rfl rfl rfl rfl rfl (by kernel_rfl) uf rfl)
theorem BX {spots_1:(List Spot)} {l_2:(List Campaign)} {r:(List Share)×Int} (hF:jL spots_1 l_2=some r) :
  FnM Tryz.prog 7 [(vL Spot.enc spots_1),(vL Campaign.enc l_2)] [] (uK [.int .i64 r.2] (gV (av 0) 3 r.1)) (([]:List Box).map some++gO 3 Share.enc r.1):=by
 refine FnM.of_wH ⟨Tryz.prog,133,[],[]⟩ rfl Tryz.func7 rfl rfl (lb_ rfl) (by kernel_rfl) ?_
 unfold jL at hF
 refine ai (aa .nil (aa (vI 0) (af (ak (ai (aa (vL Spot.enc spots_1) (aa (vL Campaign.enc l_2) ?_)))))))
 obtain ⟨r_3,hr_4,hF⟩:=bind_some hF
 refine aF (mr hr_4) rfl hb26 rfl rfl rfl rfl wz (aa (vI r_3) (af (ai (aa (vI r_3) (aa (vB (r_3 != 0)) (af ?_))))))
 rcases aj hF with⟨hc_5,hF⟩|⟨hc_5,hF⟩
 ·refine aB rfl hc_5 (ai (aa (vI r_3) (aa .nil (aa (vI r_3) (af (jv (λn_6 => ?_)))))))
  obtain rfl:=ae hF
  exact aA (Fe (outs:=([]:List Box)) [.int .i64 r_3] (.inr rfl) 0 rfl ⟨rfl,trivial⟩ rfl rfl (by kernel_rfl) (by kernel_rfl))
 ·refine ay rfl hc_5 (ax (ai (aa (vL Spot.enc spots_1) (aa (vL Campaign.enc l_2) ?_))))
  obtain ⟨r_7,hr_8,hF⟩:=bind_some hF
  obtain ⟨_,hn_12,hF⟩:=bind_some hF
  refine J3 (uw hr_8) rfl hb27 (rD hn_12) rfl (by kernel_rfl) (by kernel_rfl) (by kernel_rfl) wz (λn_9 n_10 ns_11=>aa (.ref n_9 0 0) (af (ak (ai (aa (.ref n_9 0 0) ?_)))))
  obtain ⟨_,hn_15,hF⟩:=bind_some hF
  obtain ⟨_,hm_16,hF⟩:=bind_some hF
  obtain ⟨r_13,hr_14,hF⟩:=bind_some hF
  obtain ⟨_,hs_17,hF⟩:=bind_some hF
  refine kZ (H0:=(([(n_9,some (.cells 2 [(.vs n_10 1 0 r_7.f_can.length),(vI r_7.f_camps)])),(n_10,some (.cells 1 (aI 1 ns_11 r_7.f_can)))]:Hp)++(aP 1 eI ns_11 r_7.f_can))) rfl (Ep 0 0 1 il ft (nL hr_14) rfl hb28 rfl rfl (by decide) (pM hm_16) (rD hn_15) (mR hs_17) rfl rfl (by kernel_rfl) (λ_=>by kernel_rfl) (by kernel_rfl) (by kernel_rfl) wz (aa (vL Campaign.enc l_2) ?_))
  obtain ⟨r_18,hr_19,hF⟩:=bind_some hF
  refine aF (vZ hr_19) rfl hb29 rfl rfl rfl rfl wz (aa (vB (decide (r_13.1<r_18))) (af ?_))
  rcases aj hF with⟨hc_20,hF⟩|⟨hc_20,hF⟩
  ·refine aB rfl hc_20 (ai (aa .nil (aa (vI 12) (af (jv (λn_21=>JV (C0:=([(n_9,some (.cells 2 [(.vs n_10 1 0 r_7.f_can.length),(vI r_13.2.f_camps)])),(n_10,some (.cells 1 (aI 1 ns_11 r_13.2.f_can)))]:Hp)) (T:=(aP 1 eI ns_11 r_13.2.f_can)) (X:=([(n_21,gB 3 Share.enc ([]:List Share))]:Hp)) ?_))))))
   obtain rfl:=ae hF
   exact aA (Fe (outs:=([]:List Box)) [.int .i64 12] (.inr rfl) 2 rfl ⟨rfl,trivial⟩ rfl rfl (by kernel_rfl) (by kernel_rfl))
  ·refine ay rfl hc_20 (ax (ai (aa .nil (af (ak (ai (aa (vL Campaign.enc l_2) (bH BA rfl wz (aa (vI 0) (af (jv (λn_28=>JV (C0:=([(n_9,some (.cells 2 [(.vs n_10 1 0 r_7.f_can.length),(vI r_13.2.f_camps)])),(n_10,some (.cells 1 (aI 1 ns_11 r_13.2.f_can)))]:Hp)) (T:=(aP 1 eI ns_11 r_13.2.f_can)) (X:=([(n_28,gB 3 Share.enc ([]:List Share))]:Hp)) ?_))))))))))))
   obtain ⟨o_33,hj_34,hF⟩:=bind_some hF
   obtain ⟨hn_26,hj_34⟩:=aY hj_34
   refine fT (σ:=(List (List Int))×(List Share)×Int) (N:=Nm) (λp=>(λ(s_27:(List (List Int))×(List Share)×Int) (n_30:Nm)=>([(8,(gV n_30 3 s_27.2.1))]:SL_)) p.1 p.2) (λp=>(λ(s_27:(List (List Int))×(List Share)×Int) (n_30:Nm)=>(([(n_9,some (.cells 2 [(.vs n_10 1 0 r_7.f_can.length),(vI s_27.2.2)])),(n_10,some (.cells 1 (aI 1 ns_11 s_27.1))),(n_30,gB 3 Share.enc s_27.2.1)]:Hp)++(aP 1 eI ns_11 s_27.1))) p.1 p.2) (λ(k_22:Nat)=>(λp=>(λ(s_27:(List (List Int))×(List Share)×Int) (n_30:Nm)=>([(0,(vL Spot.enc spots_1)),(7,(.ref n_9 0 0)),(8,(gV n_30 3 s_27.2.1)),(32,(vL Campaign.enc l_2)),(33,(vI (l_2.length:Int))),(34,(vI (k_22:Int)))]:SL_)) p.1 p.2)) (λk x s=>jJ spots_1 r_7 k x s) o_33 l_2 ((r_13.2.f_can,([]:List Share),r_13.2.f_camps),n_28) hj_34 rfl (dh (C1:=([(n_9,some (.cells 2 [(.vs n_10 1 0 r_7.f_can.length),(vI r_13.2.f_camps)])),(n_10,some (.cells 1 (aI 1 ns_11 r_13.2.f_can))),(n_28,gB 3 Share.enc ([]:List Share))]:Hp)) (T:=(aP 1 eI ns_11 r_13.2.f_can)) [0,1,2] (by decide) rfl rfl) ?_ ?_
   ·rintro ⟨k_22,l_23,s_27,n_30⟩ ⟨hL_32,hD_25⟩
    dsimp only at hL_32 hD_25
    cases l_23 with
    | nil =>
     obtain rfl:=ae hL_32
     refine ai (aa (vB (decide ((k_22:Int)<(l_2.length:Int)))) (af ?_))
     refine ak (ay rfl (drop_nil hD_25) (aW ?_))
     exact aU (s_27,n_30) rfl rfl (dh (C1:=([(n_9,some (.cells 2 [(.vs n_10 1 0 r_7.f_can.length),(vI s_27.2.2)])),(n_10,some (.cells 1 (aI 1 ns_11 s_27.1))),(n_30,gB 3 Share.enc s_27.2.1)]:Hp)) (T:=(aP 1 eI ns_11 s_27.1)) [0,1,2] (by decide) rfl rfl)
    | cons x_24 l_23 =>
     obtain ⟨c_,hc_31,hL_32⟩:=bind_some hL_32
     refine ai (aa (vB (decide ((k_22:Int)<(l_2.length:Int)))) (af ?_))
     refine ak (aB rfl (bu hD_25) (ax ?_))
     unfold jJ at hc_31
     refine ak (aM (ai (aa (vI (k_22:Int)) (dC Am rfl rfl (bD hD_25) rfl wz (bK oD vG rfl (.d (.agg (Campaign.enc x_24))) rfl wz (cz 0 (.inl rfl) z48 rfl wz (λn_35=>rY (C0:=([(n_9,some (.cells 2 [(.vs n_10 1 0 r_7.f_can.length),(vI s_27.2.2)])),(n_10,some (.cells 1 (aI 1 ns_11 s_27.1))),(n_30,gB 3 Share.enc s_27.2.1)]:Hp)) (T:=(aP 1 eI ns_11 s_27.1)) (X:=([(n_35,some (.cells 8 [(vS (⟨#[]⟩:ByteArray)),(vS (⟨#[]⟩:ByteArray)),(vI 0),(vI 0),.nil,(vI 0),(vI 0),(vI 0)]))]:Hp)) (aa (vI (k_22:Int)) (eB 0 il ft 3 oD rfl rfl (Campaign.v x_24) rfl wz (af (ai (aa (vL Spot.enc spots_1) (bH Fa rfl wz (aa (vI 0) (af ?_)))))))))))))))
     obtain ⟨o_46,hj_47,hc_31⟩:=bind_some hc_31
     obtain ⟨hn_40,hj_47⟩:=aY hj_47
     refine fT (σ:=(List (List Int))×(List Share)×Int) (N:=Nm) (λp=>(λ(s_41:(List (List Int))×(List Share)×Int) (n_43:Nm)=>([(0,(vL Spot.enc spots_1)),(7,(.ref n_9 0 0)),(8,(gV n_43 3 s_41.2.1)),(32,(vL Campaign.enc l_2)),(33,(vI (l_2.length:Int))),(34,(vI (k_22:Int)))]:SL_)) p.1 p.2) (λp=>(λ(s_41:(List (List Int))×(List Share)×Int) (n_43:Nm)=>(([(n_9,some (.cells 2 [(.vs n_10 1 0 r_7.f_can.length),(vI s_41.2.2)])),(n_10,some (.cells 1 (aI 1 ns_11 s_41.1))),(n_43,gB 3 Share.enc s_41.2.1),(n_35,some (.cells 8 (Campaign.v x_24)))]:Hp)++(aP 1 eI ns_11 s_41.1))) p.1 p.2) (λ(k_36:Nat)=>(λp=>(λ(s_41:(List (List Int))×(List Share)×Int) (n_43:Nm)=>([(0,(vL Spot.enc spots_1)),(7,(.ref n_9 0 0)),(8,(gV n_43 3 s_41.2.1)),(9,(vI (k_22:Int))),(10,(.ref n_35 0 0)),(32,(vL Campaign.enc l_2)),(33,(vI (l_2.length:Int))),(34,(vI (k_22:Int))),(39,(vL Spot.enc spots_1)),(40,(vI (spots_1.length:Int))),(41,(vI (k_36:Int)))]:SL_)) p.1 p.2)) (λk x s=>jH x_24 r_7 k_22 k x s) o_46 spots_1 ((s_27.1,s_27.2.1,s_27.2.2),n_30) hj_47 rfl (dh (C1:=([(n_9,some (.cells 2 [(.vs n_10 1 0 r_7.f_can.length),(vI s_27.2.2)])),(n_10,some (.cells 1 (aI 1 ns_11 s_27.1))),(n_30,gB 3 Share.enc s_27.2.1),(n_35,some (.cells 8 (Campaign.v x_24)))]:Hp)) (T:=(aP 1 eI ns_11 s_27.1)) [0,1,2,3] (by decide) rfl rfl) ?_ ?_
     ·rintro ⟨k_36,l_37,s_41,n_43⟩ ⟨hL_45,hD_39⟩
      dsimp only at hL_45 hD_39
      cases l_37 with
      | nil =>
       obtain rfl:=ae hL_45
       refine ai (aa (vB (decide ((k_36:Int)<(spots_1.length:Int)))) (af ?_))
       refine ak (ay rfl (drop_nil hD_39) (aW ?_))
       exact aU (s_41,n_43) rfl rfl (dh (C1:=([(n_9,some (.cells 2 [(.vs n_10 1 0 r_7.f_can.length),(vI s_41.2.2)])),(n_10,some (.cells 1 (aI 1 ns_11 s_41.1))),(n_43,gB 3 Share.enc s_41.2.1),(n_35,some (.cells 8 (Campaign.v x_24)))]:Hp)) (T:=(aP 1 eI ns_11 s_41.1)) [0,1,2,3] (by decide) rfl rfl)
      | cons x_38 l_37 =>
       obtain ⟨c_,hc_44,hL_45⟩:=bind_some hL_45
       refine ai (aa (vB (decide ((k_36:Int)<(spots_1.length:Int)))) (af ?_))
       refine ak (aB rfl (bu hD_39) (ax ?_))
       unfold jH at hc_44
       refine ak (aM (ai (aa (vI (k_36:Int)) (dC Dr rfl rfl (bD hD_39) rfl wz (bK uq Db rfl (.d (.agg (Spot.enc x_38))) rfl wz (cz 0 (.inl rfl) z57 rfl wz (λn_48=>rY (C0:=([(n_9,some (.cells 2 [(.vs n_10 1 0 r_7.f_can.length),(vI s_41.2.2)])),(n_10,some (.cells 1 (aI 1 ns_11 s_41.1))),(n_43,gB 3 Share.enc s_41.2.1),(n_35,some (.cells 8 (Campaign.v x_24)))]:Hp)) (T:=(aP 1 eI ns_11 s_41.1)) (X:=([(n_48,some (.cells 5 [(vS (⟨#[]⟩:ByteArray)),(vI 0),(vI 0),(vI 0),.nil]))]:Hp)) (aa (vI (k_36:Int)) (eB 0 il ft 4 uq rfl rfl (Spot.v x_38) rfl wz (af (ak (ai (aC 0 3 il ft oD vG rfl rfl (.d (.agg (Campaign.enc x_24))) rfl wz (aC 0 4 il ft uq Db rfl rfl (.d (.agg (Spot.enc x_38))) rfl wz ?_))))))))))))))
       obtain ⟨r_49,hr_50,hc_44⟩:=bind_some hc_44
       refine aF (wh hr_50) rfl hb30 rfl rfl rfl rfl wz (aa (vB (!r_49)) (af ?_))
       rcases aj hc_44 with⟨hc_51,hc_44⟩|⟨hc_51,hc_44⟩
       ·refine aB rfl hc_51 (aW (au (dB (bv hD_39 hn_40) wz rfl (aa (vI ((k_36+1:Nat):Int)) (af ?_)))))
        obtain rfl:=ae hc_44
        exact aV (k_36+1,l_37,(s_41.1,s_41.2.1,s_41.2.2),n_43) ⟨hL_45,aR hD_39⟩ (ls_ _) rfl (dh (C1:=([(n_9,some (.cells 2 [(.vs n_10 1 0 r_7.f_can.length),(vI s_41.2.2)])),(n_10,some (.cells 1 (aI 1 ns_11 s_41.1))),(n_43,gB 3 Share.enc s_41.2.1),(n_35,some (.cells 8 (Campaign.v x_24))),(n_48,some (.cells 5 (Spot.v x_38)))]:Hp)) (T:=(aP 1 eI ns_11 s_41.1)) [0,1,2,3] (by decide) rfl rfl)
       ·refine ay rfl hc_51 (ax (ai (aa (.ref n_9 0 0) (aa (vI (k_22:Int)) ?_))))
        obtain ⟨_,hn_54,hc_44⟩:=bind_some hc_44
        obtain ⟨_,hm_55,hc_44⟩:=bind_some hc_44
        obtain ⟨r_52,hr_53,hc_44⟩:=bind_some hc_44
        refine kZ (H0:=(([(n_9,some (.cells 2 [(.vs n_10 1 0 r_7.f_can.length),(vI s_41.2.2)])),(n_10,some (.cells 1 (aI 1 ns_11 s_41.1))),(n_43,gB 3 Share.enc s_41.2.1),(n_35,some (.cells 8 (Campaign.v x_24))),(n_48,some (.cells 5 (Spot.v x_38)))]:Hp)++(aP 1 eI ns_11 s_41.1))) rfl (tC 0 0 1 il ft (nR hr_53) rfl hb31 rfl rfl (by decide) (pM hm_55) (rD hn_54) rfl (by kernel_rfl) (λ_=>by kernel_rfl) (by kernel_rfl) (by kernel_rfl) wz (aa (.ref n_9 0 0) (aa (vI (k_36:Int)) ?_)))
        obtain ⟨_,hn_58,hc_44⟩:=bind_some hc_44
        obtain ⟨_,hm_59,hc_44⟩:=bind_some hc_44
        obtain ⟨r_56,hr_57,hc_44⟩:=bind_some hc_44
        refine kZ (H0:=(([(n_9,some (.cells 2 [(.vs n_10 1 0 r_7.f_can.length),(vI s_41.2.2)])),(n_10,some (.cells 1 (aI 1 ns_11 s_41.1))),(n_43,gB 3 Share.enc s_41.2.1),(n_35,some (.cells 8 (Campaign.v x_24))),(n_48,some (.cells 5 (Spot.v x_38)))]:Hp)++(aP 1 eI ns_11 s_41.1))) rfl (tC 0 0 1 il ft (nO hr_57) rfl hb32 rfl rfl (by decide) (pM hm_59) (rD hn_58) rfl (by kernel_rfl) (λ_=>by kernel_rfl) (by kernel_rfl) (by kernel_rfl) wz (aa (vI r_52) (aa (vI r_56) (af (ak (bE (aa (.ref n_9 0 0) (aa (.ref n_9 0 0) (aG nM rfl 0 rfl wz (aC 3 0 (.inr (by kernel_rfl)) (λ_ _ ag=>trivial) y9 y8 rfl rfl (.vs n_10 1 0 r_7.f_can.length) rfl wz (aa (vI r_56) ?_)))))))))))
        obtain ⟨_,hi_60,hc_44⟩:=bind_some hc_44
        refine j5 Aw rfl rfl (pU hi_60) (lw hi_60) wz ?_
        obtain ⟨r_61,hr_62,hc_44⟩:=bind_some hc_44
        refine qg 6 1 (.inr (by kernel_rfl)) (λ_ _ ag=>⟨.inl ⟨rfl,rfl⟩,trivial⟩) uS xu rfl rfl hr_62 wz (aa (vI r_52) ?_)
        obtain ⟨_,hi_63,hc_44⟩:=bind_some hc_44
        refine jG gq rfl rfl (gp hi_63) (dK hi_63) wz ?_
        obtain ⟨r_64,hr_65,hc_44⟩:=bind_some hc_44
        obtain ⟨e_66,hy_67,hc_44⟩:=bind_some hc_44
        refine kZ (H0:=(([(n_9,some (.cells 2 [(.vs n_10 1 0 r_7.f_can.length),(vI s_41.2.2)])),(n_10,some (.cells 1 (aI 1 ns_11 s_41.1))),(n_43,gB 3 Share.enc s_41.2.1),(n_35,some (.cells 8 (Campaign.v x_24))),(n_48,some (.cells 5 (Spot.v x_38)))]:Hp)++(aP 1 eI ns_11 s_41.1))) rfl (F9 9 (.inr (by kernel_rfl)) (λ_ _ ag=>⟨.inl ⟨rfl,rfl⟩,⟨.inl ⟨rfl,rfl⟩,trivial⟩⟩) sz3 ag3 rfl hr_65 hy_67 (vI e_66) rfl wz (aa (.ref n_9 0 0) (aa (.ref n_9 0 0) (aG nM rfl 0 rfl wz (aC 13 0 (.inr (by kernel_rfl)) (λ_ _ ag=>⟨.inl ⟨rfl,rfl⟩,⟨.inl ⟨rfl,rfl⟩,⟨.inl ⟨rfl,rfl⟩,trivial⟩⟩⟩) y9 y8 rfl rfl (.vs n_10 1 0 r_7.f_can.length) rfl wz (aa (vI r_52) ?_))))))
        obtain ⟨_,hi_68,hc_44⟩:=bind_some hc_44
        refine j5 Aw rfl rfl (pU hi_68) (lw hi_68) wz ?_
        obtain ⟨r_69,hr_70,hc_44⟩:=bind_some hc_44
        refine qg 16 1 (.inr (by kernel_rfl)) (λ_ _ ag=>⟨.inl ⟨rfl,rfl⟩,⟨.inl ⟨rfl,rfl⟩,⟨.inl ⟨rfl,rfl⟩,⟨.inl ⟨rfl,rfl⟩,trivial⟩⟩⟩⟩) uS xu rfl rfl hr_70 wz (aa (vI r_56) ?_)
        obtain ⟨_,hi_71,hc_44⟩:=bind_some hc_44
        refine jG gq rfl rfl (gp hi_71) (dK hi_71) wz ?_
        obtain ⟨r_72,hr_73,hc_44⟩:=bind_some hc_44
        obtain ⟨e_74,hy_75,hc_44⟩:=bind_some hc_44
        refine kZ (H0:=(([(n_9,some (.cells 2 [(.vs n_10 1 0 r_7.f_can.length),(vI s_41.2.2)])),(n_10,some (.cells 1 (aI 1 ns_11 s_41.1))),(n_43,gB 3 Share.enc s_41.2.1),(n_35,some (.cells 8 (Campaign.v x_24))),(n_48,some (.cells 5 (Spot.v x_38)))]:Hp)++(aP 1 eI ns_11 s_41.1))) rfl (F9 19 (.inr (by kernel_rfl)) (λ_ _ ag=>⟨.inl ⟨rfl,rfl⟩,⟨.inl ⟨rfl,rfl⟩,⟨.inl ⟨rfl,rfl⟩,⟨.inl ⟨rfl,rfl⟩,⟨.inl ⟨rfl,rfl⟩,trivial⟩⟩⟩⟩⟩) sz3 ag3 rfl hr_73 hy_75 (vI e_74) rfl wz (aa (vI e_66) (aa (vI e_74) (af (aO (H0:=(([(n_9,some (.cells 2 [(.vs n_10 1 0 r_7.f_can.length),(vI s_41.2.2)])),(n_10,some (.cells 1 (aI 1 ns_11 s_41.1))),(n_43,gB 3 Share.enc s_41.2.1),(n_35,some (.cells 8 (Campaign.v x_24))),(n_48,some (.cells 5 (Spot.v x_38)))]:Hp)++(aP 1 eI ns_11 s_41.1))) ([(0,(vL Spot.enc spots_1)),(7,(.ref n_9 0 0)),(8,(gV n_43 3 s_41.2.1)),(9,(vI (k_22:Int))),(10,(.ref n_35 0 0)),(12,(.ref n_48 0 0)),(13,(vI r_52)),(14,(vI r_56)),(15,(vI e_66)),(16,(vI e_74)),(32,(vL Campaign.enc l_2)),(33,(vI (l_2.length:Int))),(34,(vI (k_22:Int))),(39,(vL Spot.enc spots_1)),(40,(vI (spots_1.length:Int))),(41,(vI (k_36:Int)))]:SL_) (by kernel_rfl) (dh (C1:=([(n_9,some (.cells 2 [(.vs n_10 1 0 r_7.f_can.length),(vI s_41.2.2)])),(n_10,some (.cells 1 (aI 1 ns_11 s_41.1))),(n_43,gB 3 Share.enc s_41.2.1),(n_35,some (.cells 8 (Campaign.v x_24))),(n_48,some (.cells 5 (Spot.v x_38)))]:Hp)) (T:=(aP 1 eI ns_11 s_41.1)) [0,1,2,3,4] (by decide) (by kernel_rfl) (by kernel_rfl)) (ak (bE (aa (.ref n_9 0 0) (aa (.ref n_9 0 0) (aG nM rfl 0 rfl wz (aC 3 0 (.inr (by kernel_rfl)) (λ_ _ ag=>trivial) y9 y8 rfl rfl (.vs n_10 1 0 r_7.f_can.length) rfl wz (aa (vI r_52) ?_))))))))))))
        obtain ⟨_,hi_76,hc_44⟩:=bind_some hc_44
        refine j5 Aw rfl rfl (pU hi_76) (lw hi_76) wz ?_
        obtain ⟨r_77,hr_78,hc_44⟩:=bind_some hc_44
        refine qg 6 1 (.inr (by kernel_rfl)) (λ_ _ ag=>⟨.inl ⟨rfl,rfl⟩,trivial⟩) uS xu rfl rfl hr_78 wz (aa (vI r_56) (aa (.ref n_9 0 0) (aa (.ref n_9 0 0) (aG nM rfl 0 rfl wz (aC 11 0 (.inr (by kernel_rfl)) (λ_ _ ag=>⟨.inl ⟨rfl,rfl⟩,⟨.inl ⟨rfl,rfl⟩,trivial⟩⟩) y9 y8 rfl rfl (.vs n_10 1 0 r_7.f_can.length) rfl wz (aa (vI r_56) ?_))))))
        obtain ⟨_,hi_79,hc_44⟩:=bind_some hc_44
        refine j5 Aw rfl rfl (pU hi_79) (lw hi_79) wz ?_
        obtain ⟨r_80,hr_81,hc_44⟩:=bind_some hc_44
        refine qg 14 1 (.inr (by kernel_rfl)) (λ_ _ ag=>⟨.inl ⟨rfl,rfl⟩,⟨.inl ⟨rfl,rfl⟩,⟨.inl ⟨rfl,rfl⟩,trivial⟩⟩⟩) uS xu rfl rfl hr_81 wz (aa (vI r_52) ?_)
        obtain ⟨_,hi_82,hc_44⟩:=bind_some hc_44
        refine jG gq rfl rfl (gp hi_82) (dK hi_82) wz ?_
        obtain ⟨r_83,hr_84,hc_44⟩:=bind_some hc_44
        obtain ⟨e_85,hy_86,hc_44⟩:=bind_some hc_44
        refine kZ (H0:=(([(n_9,some (.cells 2 [(.vs n_10 1 0 r_7.f_can.length),(vI s_41.2.2)])),(n_10,some (.cells 1 (aI 1 ns_11 s_41.1))),(n_43,gB 3 Share.enc s_41.2.1),(n_35,some (.cells 8 (Campaign.v x_24))),(n_48,some (.cells 5 (Spot.v x_38)))]:Hp)++(aP 1 eI ns_11 s_41.1))) rfl (AP 17 (.inr (by kernel_rfl)) (λ_ _ ag=>⟨.inr (.inr (by kernel_rfl)),⟨.inr (.inr (by kernel_rfl)),⟨.inr (.inr (by kernel_rfl)),⟨.inr (.inr (by kernel_rfl)),trivial⟩⟩⟩⟩) sz3 rfl hr_84 hy_86 0 rfl wz (xz (b':=some (.cells 1 (aI 1 ns_11 (s_41.1.set (0+(r_52).toNat) (r_83.set (0+(r_56).toNat) 0))))) 1 rfl (sj hr_84) ?_))
        obtain ⟨_,hi_87,hc_44⟩:=bind_some hc_44
        refine jG gq rfl rfl (gp hi_87) (dK hi_87) wz ?_
        obtain ⟨r_88,hr_89,hc_44⟩:=bind_some hc_44
        obtain ⟨e_90,hy_91,hc_44⟩:=bind_some hc_44
        refine kZ (H0:=(([(n_9,some (.cells 2 [(.vs n_10 1 0 r_7.f_can.length),(vI s_41.2.2)])),(n_10,some (.cells 1 (aI 1 ns_11 (s_41.1.set (0+(r_52).toNat) (r_83.set (0+(r_56).toNat) 0))))),(n_43,gB 3 Share.enc s_41.2.1),(n_35,some (.cells 8 (Campaign.v x_24))),(n_48,some (.cells 5 (Spot.v x_38)))]:Hp)++(aP 1 eI ns_11 (s_41.1.set (0+(r_52).toNat) (r_83.set (0+(r_56).toNat) 0))))) rfl (AP 19 (.inr (by kernel_rfl)) (λ_ _ ag=>⟨.inr (.inr (by kernel_rfl)),⟨.inr (.inr (by kernel_rfl)),⟨.inr (.inr (by kernel_rfl)),⟨.inr (.inr (by kernel_rfl)),⟨.inr (.inr (by kernel_rfl)),trivial⟩⟩⟩⟩⟩) sz3 rfl hr_89 hy_91 0 rfl wz (xz (b':=some (.cells 1 (aI 1 ns_11 ((s_41.1.set (0+(r_52).toNat) (r_83.set (0+(r_56).toNat) 0)).set (0+(r_56).toNat) (r_88.set (0+(r_52).toNat) 0))))) 1 rfl (sj hr_89) (af (ak (ai (aa (vI e_66) (aa (.ref n_9 0 0) (aa (vI r_56) (aa (vI r_52) (aa (vI e_74) ?_))))))))))
        obtain ⟨_,hn_94,hc_44⟩:=bind_some hc_44
        obtain ⟨_,hm_95,hc_44⟩:=bind_some hc_44
        obtain ⟨r_92,hr_93,hc_44⟩:=bind_some hc_44
        obtain ⟨_,hs_96,hc_44⟩:=bind_some hc_44
        refine kZ (H0:=(([(n_9,some (.cells 2 [(.vs n_10 1 0 r_7.f_can.length),(vI s_41.2.2)])),(n_10,some (.cells 1 (aI 1 ns_11 ((s_41.1.set (0+(r_52).toNat) (r_83.set (0+(r_56).toNat) 0)).set (0+(r_56).toNat) (r_88.set (0+(r_52).toNat) 0))))),(n_43,gB 3 Share.enc s_41.2.1),(n_35,some (.cells 8 (Campaign.v x_24))),(n_48,some (.cells 5 (Spot.v x_38)))]:Hp)++(aP 1 eI ns_11 ((s_41.1.set (0+(r_52).toNat) (r_83.set (0+(r_56).toNat) 0)).set (0+(r_56).toNat) (r_88.set (0+(r_52).toNat) 0))))) rfl (Ep 0 0 1 il ft (nL hr_93) rfl hb28 rfl rfl (by decide) (pM hm_95) (rD hn_94) (mR hs_96) rfl rfl (by kernel_rfl) (λ_=>by kernel_rfl) (by kernel_rfl) (by kernel_rfl) wz (aa (vI (w64 (e_66+r_92.1))) (aa (vI (w64 (e_66+r_92.1))) (af (ai (aa (vI (w64 (e_66+r_92.1))) (aa (vB (decide ((w64 (e_66+r_92.1))>0))) (af (aO (H0:=(([(n_9,some (.cells 2 [(.vs n_10 1 0 r_7.f_can.length),(vI r_92.2.f_camps)])),(n_10,some (.cells 1 (aI 1 ns_11 r_92.2.f_can))),(n_43,gB 3 Share.enc s_41.2.1),(n_35,some (.cells 8 (Campaign.v x_24))),(n_48,some (.cells 5 (Spot.v x_38)))]:Hp)++(aP 1 eI ns_11 r_92.2.f_can))) ([(0,(vL Spot.enc spots_1)),(7,(.ref n_9 0 0)),(8,(gV n_43 3 s_41.2.1)),(9,(vI (k_22:Int))),(10,(.ref n_35 0 0)),(12,(.ref n_48 0 0)),(13,(vI r_52)),(14,(vI r_56)),(17,(vI (w64 (e_66+r_92.1)))),(32,(vL Campaign.enc l_2)),(33,(vI (l_2.length:Int))),(34,(vI (k_22:Int))),(39,(vL Spot.enc spots_1)),(40,(vI (spots_1.length:Int))),(41,(vI (k_36:Int))),(102,(vB (decide ((w64 (e_66+r_92.1))>0))))]:SL_) (by kernel_rfl) (dh (C1:=([(n_9,some (.cells 2 [(.vs n_10 1 0 r_7.f_can.length),(vI r_92.2.f_camps)])),(n_10,some (.cells 1 (aI 1 ns_11 r_92.2.f_can))),(n_43,gB 3 Share.enc s_41.2.1),(n_35,some (.cells 8 (Campaign.v x_24))),(n_48,some (.cells 5 (Spot.v x_38)))]:Hp)) (T:=(aP 1 eI ns_11 r_92.2.f_can)) [0,1,2,3,4] (by decide) (by kernel_rfl) (by kernel_rfl)) ?_)))))))))
        obtain ⟨v_97,h_98,hc_44⟩:=bind_some hc_44
        refine ko (β:=Nm) (λ(n_99:Nm)=>([(0,(vL Spot.enc spots_1)),(7,(.ref n_9 0 0)),(8,(gV n_99 3 v_97)),(9,(vI (k_22:Int))),(10,(.ref n_35 0 0)),(13,(vI r_52)),(14,(vI r_56)),(32,(vL Campaign.enc l_2)),(33,(vI (l_2.length:Int))),(34,(vI (k_22:Int))),(39,(vL Spot.enc spots_1)),(40,(vI (spots_1.length:Int))),(41,(vI (k_36:Int)))]:SL_)) (λ(n_99:Nm)=>(([(n_9,some (.cells 2 [(.vs n_10 1 0 r_7.f_can.length),(vI r_92.2.f_camps)])),(n_10,some (.cells 1 (aI 1 ns_11 r_92.2.f_can))),(n_99,gB 3 Share.enc v_97),(n_35,some (.cells 8 (Campaign.v x_24))),(n_48,some (.cells 5 (Spot.v x_38)))]:Hp)++(aP 1 eI ns_11 r_92.2.f_can))) (λ_=>True) ?_ ?_
        ·rcases aj h_98 with⟨hc_100,h_98⟩|⟨hc_100,h_98⟩
         ·refine aB rfl hc_100 (au (aa (gV n_43 3 s_41.2.1) (aG xe rfl 0 rfl wz (aC 0 3 il ft sz9 ag9 rfl rfl (vS x_24.Key) rfl wz (aG Ad rfl 0 rfl wz (aC 0 4 il ft sz9 ag9 rfl rfl (vS x_38.Key) rfl wz (aa (vI (w64 (e_66+r_92.1))) (aJ (.d (.agg (Share.enc (⟨x_24.Key,x_38.Key,(w64 (e_66+r_92.1))⟩:Share)))) wz (by kernel_rfl) (dU (([(⟨x_24.Key,x_38.Key,(w64 (e_66+r_92.1))⟩:Share)]:List Share).map Share.enc) es32 ez32 rfl rfl rfl rfl rfl wz ?_)))))))))
          obtain ⟨a_101,hz_102,h_98⟩:=bind_some h_98
          refine kT 0 il ft (i:=2) el32 el32 sz38 z38 rfl (by decide) by38 (by decide) (λ_=>rfl) rfl rfl rfl hz_102 wz (λn_103=>aa (gV n_103 3 a_101) (af ?_))
          obtain rfl:=ae h_98
          exact aU n_103 trivial rfl (dh (C1:=([(n_9,some (.cells 2 [(.vs n_10 1 0 r_7.f_can.length),(vI r_92.2.f_camps)])),(n_10,some (.cells 1 (aI 1 ns_11 r_92.2.f_can))),(n_103,gB 3 Share.enc a_101),(n_35,some (.cells 8 (Campaign.v x_24))),(n_48,some (.cells 5 (Spot.v x_38)))]:Hp)) (T:=(aP 1 eI ns_11 r_92.2.f_can)) [0,1,2,3,4] (by decide) rfl rfl)
         ·refine ay rfl hc_100 (ax ?_)
          obtain rfl:=ae h_98
          exact aU n_43 trivial rfl (dh (C1:=([(n_9,some (.cells 2 [(.vs n_10 1 0 r_7.f_can.length),(vI r_92.2.f_camps)])),(n_10,some (.cells 1 (aI 1 ns_11 r_92.2.f_can))),(n_43,gB 3 Share.enc s_41.2.1),(n_35,some (.cells 8 (Campaign.v x_24))),(n_48,some (.cells 5 (Spot.v x_38)))]:Hp)) (T:=(aP 1 eI ns_11 r_92.2.f_can)) [0,1,2,3,4] (by decide) rfl rfl)
        ·rintro n_99 _ sl_ H_ hp_ hq_
         refine aO _ hp_ hq_ (bE (aa (.ref n_9 0 0) (aa (.ref n_9 0 0) (aG nM rfl 0 rfl wz (aC 3 0 (.inr (by kernel_rfl)) (λ_ _ ag=>trivial) y9 y8 rfl rfl (.vs n_10 1 0 r_7.f_can.length) rfl wz (aa (vI r_52) ?_))))))
         obtain ⟨_,hi_104,hc_44⟩:=bind_some hc_44
         refine j5 Aw rfl rfl (pU hi_104) (lw hi_104) wz ?_
         obtain ⟨r_105,hr_106,hc_44⟩:=bind_some hc_44
         refine qg 6 1 (.inr (by kernel_rfl)) (λ_ _ ag=>⟨.inl ⟨rfl,rfl⟩,trivial⟩) uS xu rfl rfl hr_106 wz (aa (vI r_56) (aa (.ref n_9 0 0) (aa (.ref n_9 0 0) (aG nM rfl 0 rfl wz (aC 11 0 (.inr (by kernel_rfl)) (λ_ _ ag=>⟨.inl ⟨rfl,rfl⟩,⟨.inl ⟨rfl,rfl⟩,trivial⟩⟩) y9 y8 rfl rfl (.vs n_10 1 0 r_7.f_can.length) rfl wz (aa (vI r_56) ?_))))))
         obtain ⟨_,hi_107,hc_44⟩:=bind_some hc_44
         refine j5 Aw rfl rfl (pU hi_107) (lw hi_107) wz ?_
         obtain ⟨r_108,hr_109,hc_44⟩:=bind_some hc_44
         refine qg 14 1 (.inr (by kernel_rfl)) (λ_ _ ag=>⟨.inl ⟨rfl,rfl⟩,⟨.inl ⟨rfl,rfl⟩,⟨.inl ⟨rfl,rfl⟩,trivial⟩⟩⟩) uS xu rfl rfl hr_109 wz (aa (vI r_52) ?_)
         obtain ⟨_,hi_110,hc_44⟩:=bind_some hc_44
         refine jG gq rfl rfl (gp hi_110) (dK hi_110) wz ?_
         obtain ⟨r_111,hr_112,hc_44⟩:=bind_some hc_44
         obtain ⟨e_113,hy_114,hc_44⟩:=bind_some hc_44
         refine kZ (H0:=(([(n_9,some (.cells 2 [(.vs n_10 1 0 r_7.f_can.length),(vI r_92.2.f_camps)])),(n_10,some (.cells 1 (aI 1 ns_11 r_92.2.f_can))),(n_99,gB 3 Share.enc v_97),(n_35,some (.cells 8 (Campaign.v x_24))),(n_48,some (.cells 5 (Spot.v x_38)))]:Hp)++(aP 1 eI ns_11 r_92.2.f_can))) rfl (AP 17 (.inr (by kernel_rfl)) (λ_ _ ag=>⟨.inr (.inr (by kernel_rfl)),⟨.inr (.inr (by kernel_rfl)),⟨.inr (.inr (by kernel_rfl)),⟨.inr (.inr (by kernel_rfl)),trivial⟩⟩⟩⟩) sz3 rfl hr_112 hy_114 0 rfl wz (xz (b':=some (.cells 1 (aI 1 ns_11 (r_92.2.f_can.set (0+(r_52).toNat) (r_111.set (0+(r_56).toNat) 0))))) 1 rfl (sj hr_112) ?_))
         obtain ⟨_,hi_115,hc_44⟩:=bind_some hc_44
         refine jG gq rfl rfl (gp hi_115) (dK hi_115) wz ?_
         obtain ⟨r_116,hr_117,hc_44⟩:=bind_some hc_44
         obtain ⟨e_118,hy_119,hc_44⟩:=bind_some hc_44
         refine kZ (H0:=(([(n_9,some (.cells 2 [(.vs n_10 1 0 r_7.f_can.length),(vI r_92.2.f_camps)])),(n_10,some (.cells 1 (aI 1 ns_11 (r_92.2.f_can.set (0+(r_52).toNat) (r_111.set (0+(r_56).toNat) 0))))),(n_99,gB 3 Share.enc v_97),(n_35,some (.cells 8 (Campaign.v x_24))),(n_48,some (.cells 5 (Spot.v x_38)))]:Hp)++(aP 1 eI ns_11 (r_92.2.f_can.set (0+(r_52).toNat) (r_111.set (0+(r_56).toNat) 0))))) rfl (AP 19 (.inr (by kernel_rfl)) (λ_ _ ag=>⟨.inr (.inr (by kernel_rfl)),⟨.inr (.inr (by kernel_rfl)),⟨.inr (.inr (by kernel_rfl)),⟨.inr (.inr (by kernel_rfl)),⟨.inr (.inr (by kernel_rfl)),trivial⟩⟩⟩⟩⟩) sz3 rfl hr_117 hy_119 0 rfl wz (xz (b':=some (.cells 1 (aI 1 ns_11 ((r_92.2.f_can.set (0+(r_52).toNat) (r_111.set (0+(r_56).toNat) 0)).set (0+(r_56).toNat) (r_116.set (0+(r_52).toNat) 0))))) 1 rfl (sj hr_117) (af (au (dB (bv hD_39 hn_40) wz rfl (aa (vI ((k_36+1:Nat):Int)) (af ?_)))))))
         obtain rfl:=ae hc_44
         exact aV (k_36+1,l_37,(((r_92.2.f_can.set (0+(r_52).toNat) (r_111.set (0+(r_56).toNat) 0)).set (0+(r_56).toNat) (r_116.set (0+(r_52).toNat) 0)),v_97,r_92.2.f_camps),n_99) ⟨hL_45,aR hD_39⟩ (ls_ _) rfl (dh (C1:=([(n_9,some (.cells 2 [(.vs n_10 1 0 r_7.f_can.length),(vI r_92.2.f_camps)])),(n_10,some (.cells 1 (aI 1 ns_11 ((r_92.2.f_can.set (0+(r_52).toNat) (r_111.set (0+(r_56).toNat) 0)).set (0+(r_56).toNat) (r_116.set (0+(r_52).toNat) 0))))),(n_99,gB 3 Share.enc v_97),(n_35,some (.cells 8 (Campaign.v x_24))),(n_48,some (.cells 5 (Spot.v x_38)))]:Hp)) (T:=(aP 1 eI ns_11 ((r_92.2.f_can.set (0+(r_52).toNat) (r_111.set (0+(r_56).toNat) 0)).set (0+(r_56).toNat) (r_116.set (0+(r_52).toNat) 0)))) [0,1,2,3] (by decide) rfl rfl)
     ·rintro ⟨s_41,n_43⟩ ho_ sl_ H_ hp_ hq_
      subst ho_
      refine aO _ hp_ hq_ (au (dB (bv hD_25 hn_26) wz rfl (aa (vI ((k_22+1:Nat):Int)) (af ?_))))
      obtain rfl:=ae hc_31
      exact aV (k_22+1,l_23,(s_41.1,s_41.2.1,s_41.2.2),n_43) ⟨hL_32,aR hD_25⟩ (ls_ _) rfl (dh (C1:=([(n_9,some (.cells 2 [(.vs n_10 1 0 r_7.f_can.length),(vI s_41.2.2)])),(n_10,some (.cells 1 (aI 1 ns_11 s_41.1))),(n_43,gB 3 Share.enc s_41.2.1),(n_35,some (.cells 8 (Campaign.v x_24)))]:Hp)) (T:=(aP 1 eI ns_11 s_41.1)) [0,1,2] (by decide) rfl rfl)
   ·rintro ⟨s_27,n_30⟩ ho_ sl_ H_ hp_ hq_
    subst ho_
    refine aO _ hp_ hq_ (ai (aa (gV n_30 3 s_27.2.1) (aa (gV n_30 3 s_27.2.1) (aa (vI 0) (af ?_)))))
    obtain rfl:=ae hF
    exact aA (Fe (outs:=([]:List Box)) [.int .i64 0] (.inr rfl) 2 rfl ⟨rfl,trivial⟩ rfl rfl (by kernel_rfl) (by kernel_rfl))
theorem oo {spots_1:(List Spot)} {l_2:(List Campaign)} {r:Int} (hF:ib spots_1 l_2=some r) :
  FnM Tryz.prog 33 [(vL Spot.enc spots_1),(vL Campaign.enc l_2)] [] (vI r) []:=by
 refine FnM.of_wH ⟨Tryz.prog,9,[],[]⟩ rfl Tryz.func33 rfl rfl (lb_ rfl) (by kernel_rfl) ?_
 unfold ib at hF
 refine ai (aa (vI 0) (af (ai (aa (vL Spot.enc spots_1) (aa (vL Campaign.enc l_2) ?_)))))
 obtain ⟨r_3,hr_4,hF⟩:=bind_some hF
 obtain ⟨_,hn_8,hF⟩:=bind_some hF
 refine J3 (uw hr_4) rfl hb27 (rD hn_8) rfl (by kernel_rfl) (by kernel_rfl) (by kernel_rfl) wz (λn_5 n_6 ns_7 => ?_)
 obtain ⟨_,hn_11,hF⟩:=bind_some hF
 obtain ⟨_,hm_12,hF⟩:=bind_some hF
 obtain ⟨r_9,hr_10,hF⟩:=bind_some hF
 obtain ⟨_,hs_13,hF⟩:=bind_some hF
 refine kZ (H0:=(([(n_5,some (.cells 2 [(.vs n_6 1 0 r_3.f_can.length),(vI r_3.f_camps)])),(n_6,some (.cells 1 (aI 1 ns_7 r_3.f_can)))]:Hp)++(aP 1 eI ns_7 r_3.f_can))) rfl (Ep 0 0 1 il ft (nL hr_10) rfl hb28 rfl rfl (by decide) (pM hm_12) (rD hn_11) (mR hs_13) rfl rfl (by kernel_rfl) (λ_=>by kernel_rfl) (by kernel_rfl) (by kernel_rfl) wz (aa (vI r_9.1) (af ?_)))
 obtain rfl:=ae hF
 exact aA (aL [(vI r_9.1)] ⟨rfl,trivial⟩)
theorem oF {s_1:(List Spot)} {r:(List Spot)} (hF:dH s_1=some r) :
  FnM Tryz.prog 34 [(vL Spot.enc s_1)] [] (gV (av 0) 5 r) (([]:List Box).map some++gO 5 Spot.enc r):=by
 refine FnM.of_wH ⟨Tryz.prog,8,[],[]⟩ rfl Tryz.func34 rfl rfl (lb_ rfl) (by kernel_rfl) ?_
 unfold dH at hF
 refine ai (aa .nil (af (ak (ai (aa (vL Spot.enc s_1) (Mv Fa rfl wz (λb_2 hb_3=>af ?_)))))))
 cases b_2 with
 | true =>
  refine aB rfl rfl ?_
  obtain rfl:=hb_3 rfl
  replace hF:=GM hF
  refine ai (aa .nil (af (jv (λn_4 => ?_))))
  obtain rfl:=ae hF
  exact aA (Ma (outs:=([]:List Box)) (.inr rfl) 0 rfl rfl rfl (by kernel_rfl) (by kernel_rfl))
 | false =>
  refine ay rfl rfl (ax (ai (O1 Dr ez26 rfl wz (aa (vL Spot.enc s_1) ?_))))
  obtain ⟨a_5,hz_6,hF⟩:=bind_some hF
  refine Pw 0 (.inl rfl) el26 el26 uq z57 rfl (by decide) by57 (by decide) (λ_=>rfl) rfl rfl hz_6 wz (λn_7=>aa (gV n_7 5 a_5) (af ?_))
  obtain rfl:=ae hF
  exact aA (Ma (outs:=([]:List Box)) (.inr rfl) 0 rfl rfl rfl (by kernel_rfl) (by kernel_rfl))
theorem vz {l_1:(List ByteArray)} {r:(List ByteArray)} (hF:jQ l_1=some r) :
  FnM Tryz.prog 10 [(dV (av 0) 1 l_1)] (([]:List Box)++gI 1 eS l_1) (.tup []) (([]:List Box).map some++gT l_1 (gB 1 eS r)):=by
 refine FnM.of_wHv ⟨Tryz.prog,14,[],[]⟩ rfl Tryz.func10 rfl rfl (lb_ rfl) (by kernel_rfl) ?_
 unfold jQ at hF
 refine ai (aa (vS (⟨#[]⟩:ByteArray)) (af (ai (aa (dV (av 0) 1 l_1) (Co xq rfl wz (aa (vI 0) (af ?_)))))))
 obtain ⟨o_10,hj_11,hF⟩:=bind_some hF
 obtain ⟨hn_6,hj_11⟩:=aY hj_11
 refine bN (λ(s_7:List ByteArray)=>[]) (λ(s_7:List ByteArray)=>[((av 0),gB 1 eS s_7)]) (λ(k_2:Nat)=>(λ(s_7:List ByteArray)=>[(0,(dV (av 0) 1 s_7)),(2,(vS (⟨#[]⟩:ByteArray))),(5,(vI (l_1.length:Int))),(6,(vI (k_2:Int)))])) (λk x s=>iG k x s) o_10 (List.range ((l_1.length:Int)).toNat) l_1 hj_11 rfl (aK rfl) ?_ ?_
 ·rintro ⟨k_2,l_3,s_7⟩ ⟨hL_9,hD_5⟩
  dsimp only at hL_9 hD_5
  cases l_3 with
  | nil =>
   obtain rfl:=ae hL_9
   refine ai (aa (vB (decide ((k_2:Int)<(l_1.length:Int)))) (af ?_))
   refine ak (ay rfl (oV hD_5) (aW ?_))
   exact aU (s_7) rfl rfl (aK rfl)
  | cons x_4 l_3 =>
   obtain ⟨c_,hc_8,hL_9⟩:=bind_some hL_9
   refine ai (aa (vB (decide ((k_2:Int)<(l_1.length:Int)))) (af ?_))
   refine ak (aB rfl (mP hD_5) (ax ?_))
   unfold iG at hc_8
   refine ak (aM (ai (aa (vI (k_2:Int)) (aa (vI (k_2:Int)) (af (au (aa (dV (av 0) 1 s_7) (aa (vI (k_2:Int)) (aa (vS (⟨#[]⟩:ByteArray)) ?_)))))))))
   obtain ⟨_,hi_12,hc_8⟩:=bind_some hc_8
   refine tT pz rfl rfl (gp hi_12) (dK hi_12) wz ?_
   obtain ⟨e_13,hy_14,hc_8⟩:=bind_some hc_8
   refine wI 0 il ft 0 sz9 rfl rfl hy_14 (⟨#[]⟩:ByteArray) rfl wz (gG (v':=(dV (av 0) 1 (s_7.set (0+((k_2:Int)).toNat) (⟨#[]⟩:ByteArray)))) 0 rfl (j4 (by simp)) (gG (v':=(dV (av 0) 1 (s_7.set (0+((k_2:Int)).toNat) (⟨#[]⟩:ByteArray)))) 9 rfl (j4 (by simp)) (af (au (dB (oO hD_5 hn_6) wz rfl (aa (vI ((k_2+1:Nat):Int)) (af ?_)))))))
   obtain rfl:=ae hc_8
   exact aV (k_2+1,l_3,(s_7.set (0+((k_2:Int)).toNat) (⟨#[]⟩:ByteArray))) ⟨hL_9,aR hD_5⟩ (ls_ _) rfl (aK rfl)
 ·rintro s_7 ho_ sl_ H_ hp_ hq_
  subst ho_
  show tX _ _ _ _ _ _ _ _
  obtain rfl:=ae hF
  exact Ap (H0:=([((av 0),gB 1 eS s_7)]:Hp)) (sl':=envS []) hq_ (FK (bs:=([]:List Box)) (os:=([]:List Box)) (xs:=l_1) (o:=gB 1 eS s_7) (.inl rfl) [] trivial rfl rfl rfl rfl rfl (by kernel_rfl) uf rfl)
theorem Bb {spots_1:(List Spot)} {l_2:(List Campaign)} {r:(List ByteArray)×Int} (hF:nU spots_1 l_2=some r) :
  FnM Tryz.prog 9 [(vL Spot.enc spots_1),(vL Campaign.enc l_2)] [] (uK [.int .i64 r.2] (gV (av 0) 1 r.1)) (([]:List Box).map some++gO 1 eS r.1):=by
 refine FnM.of_wH ⟨Tryz.prog,53,[],[]⟩ rfl Tryz.func9 rfl rfl (lb_ rfl) (by kernel_rfl) ?_
 unfold nU at hF
 refine ai (aa .nil (aa (vI 0) (af (ak (ai (aa (vL Spot.enc spots_1) (aa (vL Campaign.enc l_2) ?_)))))))
 obtain ⟨r_3,hr_4,hF⟩:=bind_some hF
 refine aF (mr hr_4) rfl hb26 rfl rfl rfl rfl wz (aa (vI r_3) (af (ai (aa (vI r_3) (aa (vB (r_3 != 0)) (af ?_))))))
 rcases aj hF with⟨hc_5,hF⟩|⟨hc_5,hF⟩
 ·refine aB rfl hc_5 (ai (aa (vI r_3) (aa .nil (aa (vI r_3) (af (jv (λn_6 => ?_)))))))
  obtain rfl:=ae hF
  exact aA (Fe (outs:=([]:List Box)) [.int .i64 r_3] (.inr rfl) 0 rfl ⟨rfl,trivial⟩ rfl rfl (by kernel_rfl) (by kernel_rfl))
 ·refine ay rfl hc_5 (ax (ai (aa (vL Spot.enc spots_1) (aa (vL Campaign.enc l_2) ?_))))
  obtain ⟨r_7,hr_8,hF⟩:=bind_some hF
  refine aF (oo hr_8) rfl hb33 rfl rfl rfl rfl wz (aa (vI r_7) (af (ai (aa .nil (af (ak (ai (aa (vL Spot.enc spots_1) (bH Fa rfl wz (aa (vI 0) (af (jv (λn_15 => ?_)))))))))))))
  obtain ⟨o_20,hj_21,hF⟩:=bind_some hF
  obtain ⟨hn_13,hj_21⟩:=aY hj_21
  refine fT (σ:=(List ByteArray)) (N:=Nm) (λp=>(λ(s_14:List ByteArray) (n_17:Nm)=>([(8,(gV n_17 1 s_14))]:SL_)) p.1 p.2) (λp=>(λ(s_14:List ByteArray) (n_17:Nm)=>([(n_17,gB 1 eS s_14)]:Hp)) p.1 p.2) (λ(k_9:Nat)=>(λp=>(λ(s_14:List ByteArray) (n_17:Nm)=>([(0,(vL Spot.enc spots_1)),(1,(vL Campaign.enc l_2)),(7,(vI r_7)),(8,(gV n_17 1 s_14)),(21,(vL Spot.enc spots_1)),(22,(vI (spots_1.length:Int))),(23,(vI (k_9:Int)))]:SL_)) p.1 p.2)) (λk x s=>kW spots_1 l_2 r_7 k x s) o_20 spots_1 (([]:List ByteArray),n_15) hj_21 rfl (aK rfl) ?_ ?_
  ·rintro ⟨k_9,l_10,s_14,n_17⟩ ⟨hL_19,hD_12⟩
   dsimp only at hL_19 hD_12
   cases l_10 with
   | nil =>
    obtain rfl:=ae hL_19
    refine ai (aa (vB (decide ((k_9:Int)<(spots_1.length:Int)))) (af ?_))
    refine ak (ay rfl (drop_nil hD_12) (aW ?_))
    exact aU (s_14,n_17) rfl rfl (aK rfl)
   | cons x_11 l_10 =>
    obtain ⟨c_,hc_18,hL_19⟩:=bind_some hL_19
    refine ai (aa (vB (decide ((k_9:Int)<(spots_1.length:Int)))) (af ?_))
    refine ak (aB rfl (bu hD_12) (ax ?_))
    unfold kW at hc_18
    refine ak (aM (ai (aa (vI (k_9:Int)) (dC Dr rfl rfl (bD hD_12) rfl wz (bK uq Db rfl (.d (.agg (Spot.enc x_11))) rfl wz (cz 0 (.inl rfl) z57 rfl wz (λn_22=>aa (vI (k_9:Int)) (eB 0 il ft 1 uq rfl rfl (Spot.v x_11) rfl wz (af (ak (ai (aG z8 rfl 3 rfl wz (aC 0 1 il ft sz3 ag3 rfl rfl (vI x_11.Room) rfl wz (aa (vB (x_11.Room==0)) (af ?_)))))))))))))))
    rcases aj hc_18 with⟨hc_23,hc_18⟩|⟨hc_23,hc_18⟩
    ·refine aB rfl hc_23 (aW (au (dB (bv hD_12 hn_13) wz rfl (aa (vI ((k_9+1:Nat):Int)) (af ?_)))))
     obtain rfl:=ae hc_18
     exact aV (k_9+1,l_10,s_14,n_17) ⟨hL_19,aR hD_12⟩ (ls_ _) rfl (aK rfl)
    ·refine ay rfl hc_23 (ax (ai (aa (vL Spot.enc spots_1) ?_)))
     obtain ⟨r_24,hr_25,hc_18⟩:=bind_some hc_18
     refine Ip [] (oF hr_25) rfl hb34 rfl (by kernel_rfl) (by kernel_rfl) (by kernel_rfl) (by kernel_rfl) (by kernel_rfl) rfl (by decide) (by kernel_rfl) wz ([(n_17,gB 1 eS s_14),(n_22,some (.cells 5 (Spot.v x_11)))]:Hp) (λ_=>by kernel_rfl) (λn_27=>aa (gV n_27 5 r_24) (af (ai (aa (gV n_27 5 r_24) (aa (vI (k_9:Int)) ?_)))))
     obtain ⟨_,hi_28,hc_18⟩:=bind_some hc_18
     refine jG Dr rfl rfl (gp hi_28) (dK hi_28) wz (aG z8 rfl 3 rfl wz ?_)
     obtain ⟨e_29,hy_30,hc_18⟩:=bind_some hc_18
     refine uh 0 2 il ft sz3 ag3 rfl rfl hy_30 (vI e_29.Room) rfl wz (aa (vI (w64 (e_29.Room-1))) ?_)
     obtain ⟨_,hi_31,hc_18⟩:=bind_some hc_18
     refine jG Dr rfl rfl (gp hi_31) (dK hi_31) wz (aG z8 rfl 3 rfl wz ?_)
     obtain ⟨e_32,hy_33,hc_18⟩:=bind_some hc_18
     refine wI 0 il ft 2 sz3 rfl rfl hy_33 (⟨e_32.Key,e_32.Time,(w64 (e_29.Room-1)),e_32.Tags⟩:Spot) rfl wz (gG (v':=(gV n_27 5 (r_24.set (0+((k_9:Int)).toNat) (⟨e_32.Key,e_32.Time,(w64 (e_29.Room-1)),e_32.Tags⟩:Spot)))) 11 rfl (jE (by simp)) (gG (v':=(gV n_27 5 (r_24.set (0+((k_9:Int)).toNat) (⟨e_32.Key,e_32.Time,(w64 (e_29.Room-1)),e_32.Tags⟩:Spot)))) 32 rfl (jE (by simp)) (gG (v':=(gV n_27 5 (r_24.set (0+((k_9:Int)).toNat) (⟨e_32.Key,e_32.Time,(w64 (e_29.Room-1)),e_32.Tags⟩:Spot)))) 33 rfl (jE (by simp)) (af (ak (iQ 2 rfl (fF 11 2 rfl rfl (fF 32 2 rfl rfl (fF 33 2 rfl rfl (au (aa (vL Spot.enc (r_24.set (0+((k_9:Int)).toNat) (⟨e_32.Key,e_32.Time,(w64 (e_29.Room-1)),e_32.Tags⟩:Spot))) (aa (vL Campaign.enc l_2) ?_))))))))))))
     obtain ⟨r_34,hr_35,hc_18⟩:=bind_some hc_18
     refine aF (oo hr_35) rfl hb33 rfl rfl rfl rfl wz (aa (vI r_7) (aa (vB (decide (r_34<r_7))) (af ?_)))
     obtain ⟨v_36,h_37,hc_18⟩:=bind_some hc_18
     refine ko (β:=Nm) (λ(n_38:Nm)=>([(0,(vL Spot.enc spots_1)),(1,(vL Campaign.enc l_2)),(7,(vI r_7)),(8,(gV n_38 1 v_36)),(21,(vL Spot.enc spots_1)),(22,(vI (spots_1.length:Int))),(23,(vI (k_9:Int)))]:SL_)) (λ(n_38:Nm)=>([(n_38,gB 1 eS v_36),(n_22,some (.cells 5 (Spot.v x_11))),(n_27,gF 5 Spot.enc (r_24.set (0+((k_9:Int)).toNat) (⟨e_32.Key,e_32.Time,(w64 (e_29.Room-1)),e_32.Tags⟩:Spot)))]:Hp)) (λ_=>True) ?_ ?_
     ·rcases aj h_37 with⟨hc_39,h_37⟩|⟨hc_39,h_37⟩
      ·refine aB rfl hc_39 (au (aa (gV n_17 1 s_14) (aG Ad rfl 0 rfl wz (aC 0 1 il ft sz9 ag9 rfl rfl (vS x_11.Key) rfl wz (dU (([x_11.Key]:List ByteArray).map eS) pz BB rfl rfl rfl rfl rfl wz ?_)))))
       obtain ⟨a_40,hz_41,h_37⟩:=bind_some h_37
       refine kT 0 il ft (i:=0) Jo Jo sz9 z9 rfl (by decide) by9 (by decide) (λ_=>rfl) rfl rfl rfl hz_41 wz (λn_42=>aa (gV n_42 1 a_40) (af ?_))
       obtain rfl:=ae h_37
       exact aU n_42 trivial rfl (aK rfl)
      ·refine ay rfl hc_39 (ax ?_)
       obtain rfl:=ae h_37
       exact aU n_17 trivial rfl (aK rfl)
     ·rintro n_38 _ sl_ H_ hp_ hq_
      refine aO _ hp_ hq_ (au (dB (bv hD_12 hn_13) wz rfl (aa (vI ((k_9+1:Nat):Int)) (af ?_))))
      obtain rfl:=ae hc_18
      exact aV (k_9+1,l_10,v_36,n_38) ⟨hL_19,aR hD_12⟩ (ls_ _) rfl (aK rfl)
  ·rintro ⟨s_14,n_17⟩ ho_ sl_ H_ hp_ hq_
   subst ho_
   refine aO _ hp_ hq_ (ai (aa (gV n_17 1 s_14) (aa (gV n_17 1 s_14) (aa (vI 0) (af ?_)))))
   obtain rfl:=ae hF
   exact aA (Fe (outs:=([]:List Box)) [.int .i64 0] (.inr rfl) 0 rfl ⟨rfl,trivial⟩ rfl rfl (by kernel_rfl) (by kernel_rfl))
theorem Bj {o_1:Campaign} {p_2:Campaign} {r:Bool} (hF:mO o_1 p_2=some r) :
  FnM Tryz.prog 37 [(.d (.agg (Campaign.enc o_1))),(.ref (av 0) 0 0)] [(.cells 8 (Campaign.v p_2))] (vB r) [some (.cells 8 (Campaign.v p_2))]:=by
 refine FnM.of_wH ⟨Tryz.prog,9,[],[]⟩ rfl Tryz.func37 rfl rfl (lb_ rfl) (by kernel_rfl) ?_
 unfold mO at hF
 refine ai (gz 0 (.inl rfl) (Campaign.v o_1) rfl rfl wz (λn_3=>aa (vB false) (af (ai (aG xe rfl 0 rfl wz (aC 0 1 il ft sz9 ag9 rfl rfl (vS o_1.Key) rfl wz (aG xe rfl 0 rfl wz (aC 0 0 il ft sz9 ag9 rfl rfl (vS p_2.Key) rfl wz (aa (vB (sEq o_1.Key p_2.Key)) (aa (vB (sEq o_1.Key p_2.Key)) (af ?_)))))))))))
 obtain rfl:=ae hF
 exact aA (Ao (.inr rfl) [(vB (sEq o_1.Key p_2.Key))] _ [0] [av 0] ⟨rfl,trivial⟩ (.cons (jB rfl rfl) (.nil)) (by kernel_rfl) ⟨(by kernel_rfl),trivial⟩ (by decide) (by kernel_rfl))
theorem j6 {s_1:(List Campaign)} {f_2:Campaign->Option Bool} {r:Int} {gid:FuncId} {caps:List V} {Sin:List Box} (hfn:∀x0 r,f_2 x0=some r->FnM Tryz.prog gid ([(.d (.agg (Campaign.enc x0)))]++caps) Sin (vB r) (Sin.map some)) (hbF:aH Tryz.prog gid=true) (hcapF:caps.flatMap frz=[]/\caps.map co0=caps) (hokF:okL Sin.length caps=true) (hsF:∀b∈Sin,b.ok Sin.length=true) (hmF:∀b∈Sin,b.mut=true) (hF:di s_1 f_2=some r) :
  FnM Tryz.prog 56 [(vL Campaign.enc s_1),(.fn gid caps)] Sin (vI r) (Sin.map some):=by
 refine FnM.of_wH ⟨Tryz.prog,19,[],[]⟩ rfl Tryz.func56 rfl rfl (lb_ rfl) (by kernel_rfl) ?_
 unfold di at hF
 refine ai (aa (vI 0) (af (ak (ai (aa (vL Campaign.enc s_1) (bH BA rfl wz (aa (vI 0) (af ?_))))))))
 obtain ⟨o_11,hj_12,hF⟩:=bind_some hF
 obtain ⟨hn_7,hj_12⟩:=aY hj_12
 refine bN (λ(s_8:Unit)=>[]) (λ(s_8:Unit)=>(pE 0 Sin)) (λ(k_3:Nat)=>(λ(s_8:Unit)=>[(0,(vL Campaign.enc s_1)),(1,(.fn gid caps)),(7,(vI (s_1.length:Int))),(8,(vI (k_3:Int)))])) (λk x s=>bB f_2 k x s) o_11 s_1 () hj_12 rfl (vR _) ?_ ?_
 ·rintro ⟨k_3,l_4,s_8⟩ ⟨hL_10,hD_6⟩
  dsimp only at hL_10 hD_6
  cases l_4 with
  | nil =>
   obtain rfl:=ae hL_10
   refine ai (aa (vB (decide ((k_3:Int)<(s_1.length:Int)))) (af ?_))
   refine ak (ay rfl (drop_nil hD_6) (aW ?_))
   exact aU (s_8) rfl rfl (vR _)
  | cons x_5 l_4 =>
   obtain ⟨c_,hc_9,hL_10⟩:=bind_some hL_10
   refine ai (aa (vB (decide ((k_3:Int)<(s_1.length:Int)))) (af ?_))
   refine ak (aB rfl (bu hD_6) (ax ?_))
   unfold bB at hc_9
   refine ak (aM (ai (aa (vI (k_3:Int)) (aa (vI (k_3:Int)) (af (ai (aa (.fn gid caps) (aa (vL Campaign.enc s_1) (aa (vI (k_3:Int)) (dC Am rfl rfl (bD hD_6) rfl wz (bK oD vG rfl (.d (.agg (Campaign.enc x_5))) rfl wz ?_)))))))))))
   obtain ⟨r_13,hr_14,hc_9⟩:=bind_some hc_9
   refine DV (hfn _ _ hr_14) rfl hbF rfl rfl hcapF hokF hsF hmF rfl wz rfl (af ?_)
   rcases aj hc_9 with⟨hc_15,hc_9⟩|⟨hc_15,hc_9⟩
   ·refine aB rfl hc_15 (ai (aa (vI (k_3:Int)) (aa (vI (k_3:Int)) (af ?_))))
    obtain rfl:=ae hc_9
    obtain rfl:=ae hL_10
    obtain rfl:=ae hF
    exact aA (N9 hsF (.inr rfl) [(vI (k_3:Int))] ⟨rfl,trivial⟩ rfl rfl rfl)
   ·refine ay rfl hc_15 (ax (au (dB (bv hD_6 hn_7) wz rfl (aa (vI ((k_3+1:Nat):Int)) (af ?_)))))
    obtain rfl:=ae hc_9
    exact aV (k_3+1,l_4,()) ⟨hL_10,aR hD_6⟩ (ls_ _) rfl (vR _)
 ·rintro s_8 ho_ sl_ H_ hp_ hq_
  subst ho_
  refine aO _ hp_ hq_ (ai (aa (vI (-1)) (af ?_)))
  obtain rfl:=ae hF
  exact aA (N9 hsF (.inr rfl) [(vI (-1))] ⟨rfl,trivial⟩ rfl rfl rfl)
theorem jF {s_1:(List Campaign)} {f_2:Campaign->Option Bool} {r:Bool} {gid:FuncId} {caps:List V} {Sin:List Box} (hfn:∀x0 r,f_2 x0=some r->FnM Tryz.prog gid ([(.d (.agg (Campaign.enc x0)))]++caps) Sin (vB r) (Sin.map some)) (hbF:aH Tryz.prog gid=true) (hcapF:caps.flatMap frz=[]/\caps.map co0=caps) (hokF:okL Sin.length caps=true) (hsF:∀b∈Sin,b.ok Sin.length=true) (hmF:∀b∈Sin,b.mut=true) (hF:bg s_1 f_2=some r) :
  FnM Tryz.prog 36 [(vL Campaign.enc s_1),(.fn gid caps)] Sin (vB r) (Sin.map some):=by
 refine FnM.of_wH ⟨Tryz.prog,9,[],[]⟩ rfl Tryz.func36 rfl rfl (lb_ rfl) (by kernel_rfl) ?_
 unfold bg at hF
 refine ai (aa (vB false) (af (ai (aa (vL Campaign.enc s_1) (aa (.fn gid caps) ?_)))))
 obtain ⟨r_3,hr_4,hF⟩:=bind_some hF
 refine DV (j6 (gid:=gid) (caps:=caps) (Sin:=Sin) hfn hbF hcapF hokF hsF hmF hr_4) rfl hb56 rfl rfl ⟨rfl,rfl⟩ (by simp [okL,okV,hokF]) hsF hmF rfl wz rfl (aa (vB (decide (r_3>=0))) (aa (vB (decide (r_3>=0))) (af ?_)))
 obtain rfl:=ae hF
 exact aA (N9 hsF (.inr rfl) [(vB (decide (r_3>=0)))] ⟨rfl,trivial⟩ rfl rfl rfl)
theorem lC {s_1:(List Campaign)} {r:(List Campaign)} (hF:cK s_1=some r) :
  FnM Tryz.prog 38 [(vL Campaign.enc s_1)] [] (gV (av 0) 8 r) (([]:List Box).map some++gO 8 Campaign.enc r):=by
 refine FnM.of_wH ⟨Tryz.prog,8,[],[]⟩ rfl Tryz.func38 rfl rfl (lb_ rfl) (by kernel_rfl) ?_
 unfold cK at hF
 refine ai (aa .nil (af (ak (ai (aa (vL Campaign.enc s_1) (Mv BA rfl wz (λb_2 hb_3=>af ?_)))))))
 cases b_2 with
 | true =>
  refine aB rfl rfl ?_
  obtain rfl:=hb_3 rfl
  replace hF:=GM hF
  refine ai (aa .nil (af (jv (λn_4 => ?_))))
  obtain rfl:=ae hF
  exact aA (Ma (outs:=([]:List Box)) (.inr rfl) 0 rfl rfl rfl (by kernel_rfl) (by kernel_rfl))
 | false =>
  refine ay rfl rfl (ax (ai (O1 Am Oz rfl wz (aa (vL Campaign.enc s_1) ?_))))
  obtain ⟨a_5,hz_6,hF⟩:=bind_some hF
  refine Pw 0 (.inl rfl) NT NT oD z48 rfl (by decide) by48 (by decide) (λ_=>rfl) rfl rfl hz_6 wz (λn_7=>aa (gV n_7 8 a_5) (af ?_))
  obtain rfl:=ae hF
  exact aA (Ma (outs:=([]:List Box)) (.inr rfl) 0 rfl rfl rfl (by kernel_rfl) (by kernel_rfl))
theorem Di {spots_1:(List Spot)} {l_2:(List Campaign)} {c_3:Campaign} {r:Int×Int} (hF:nH spots_1 l_2 c_3=some r) :
  FnM Tryz.prog 11 [(vL Spot.enc spots_1),(vL Campaign.enc l_2),(.d (.agg (Campaign.enc c_3)))] [] (.tup [(vI r.1),(vI r.2)]) []:=by
 refine FnM.of_wH ⟨Tryz.prog,43,[],[]⟩ rfl Tryz.func11 rfl rfl (lb_ rfl) (by kernel_rfl) ?_
 unfold nH at hF
 refine ai (gz 0 (.inl rfl) (Campaign.v c_3) rfl rfl wz (λn_4=>aa (vI 0) (aa (vI 0) (af (ak (ai (aa (vL Spot.enc spots_1) (aa (vL Campaign.enc l_2) ?_))))))))
 obtain ⟨r_5,hr_6,hF⟩:=bind_some hF
 refine aF (mr hr_6) rfl hb26 rfl rfl rfl rfl wz (aa (vI r_5) (af (ai (aa (vI r_5) (aa (vB (r_5 != 0)) (af ?_))))))
 rcases aj hF with⟨hc_7,hF⟩|⟨hc_7,hF⟩
 ·refine aB rfl hc_7 (ai (aa (vI r_5) (aa (vI 0) (aa (vI r_5) (af ?_)))))
  obtain rfl:=ae hF
  exact aA (aL [(vI 0),(vI r_5)] ⟨rfl,⟨rfl,trivial⟩⟩)
 ·refine ay rfl hc_7 (ax (ak (ai (aC 0 0 il ft oD vG rfl rfl (.d (.agg (Campaign.enc c_3))) rfl wz (dU (([c_3]:List Campaign).map Campaign.enc) Am Oz rfl rfl rfl rfl rfl wz ?_)))))
  obtain ⟨r_8,hr_9,hF⟩:=bind_some hF
  refine aF (gK hr_9) rfl hb35 rfl rfl rfl rfl wz (aa (vI r_8) (af (ai (aa (vI r_8) (aa (vB (r_8 != 0)) (af ?_))))))
  rcases aj hF with⟨hc_10,hF⟩|⟨hc_10,hF⟩
  ·refine aB rfl hc_10 (ai (aa (vI r_8) (aa (vI 0) (aa (vI r_8) (af ?_)))))
   obtain rfl:=ae hF
   exact aA (aL [(vI 0),(vI r_8)] ⟨rfl,⟨rfl,trivial⟩⟩)
  ·refine ay rfl hc_10 (ax (ak (ai (aa (vL Campaign.enc l_2) (aa (.fn 37 [(.ref n_4 0 0)]) ?_)))))
   obtain ⟨r_11,hr_12,hF⟩:=bind_some hF
   refine dA 0 [0] il ft (jF (gid:=37) (caps:=[.ref (av 0) 0 0]) (Sin:=[(.cells 8 (Campaign.v c_3))]) (λ_ _ h_=>Bj h_) hb37 ⟨rfl,rfl⟩ (by kernel_rfl) (Pq (by kernel_rfl)) (MR (by kernel_rfl)) hr_12) rfl hb36 rfl (by kernel_rfl) (by kernel_rfl) (by kernel_rfl) (by kernel_rfl) (by kernel_rfl) (by kernel_rfl) (by kernel_rfl) (by decide) (by kernel_rfl) wz (vB r_11) (by kernel_rfl) ([(n_4,some (.cells 8 (Campaign.v c_3)))]:Hp) (by kernel_rfl) (af ?_)
   rcases aj hF with⟨hc_14,hF⟩|⟨hc_14,hF⟩
   ·refine aB rfl hc_14 (ai (aa (vI 0) (aa (vI 6) (af ?_))))
    obtain rfl:=ae hF
    exact aA (aL [(vI 0),(vI 6)] ⟨rfl,⟨rfl,trivial⟩⟩)
   ·refine ay rfl hc_14 (ax (ai (aa (vL Campaign.enc l_2) ?_)))
    obtain ⟨r_15,hr_16,hF⟩:=bind_some hF
    refine aF (vZ hr_16) rfl hb29 rfl rfl rfl rfl wz (aa (vI r_15) (af (ak (ai (aa (vL Spot.enc spots_1) (aa (vL Campaign.enc l_2) ?_))))))
    obtain ⟨r_17,hr_18,hF⟩:=bind_some hF
    refine aF (oo hr_18) rfl hb33 rfl rfl rfl rfl wz (aa (vI r_15) (aa (vB (decide (r_17<r_15))) (af ?_)))
    rcases aj hF with⟨hc_19,hF⟩|⟨hc_19,hF⟩
    ·refine aB rfl hc_19 (ai (aa (vI 0) (aa (vI 12) (af ?_))))
     obtain rfl:=ae hF
     exact aA (aL [(vI 0),(vI 12)] ⟨rfl,⟨rfl,trivial⟩⟩)
    ·refine ay rfl hc_19 (ax (ai (aG zT rfl 5 rfl wz (eB 0 il ft 0 sz3 rfl rfl [(vS c_3.Key),(vS c_3.Class),(vI c_3.Time.From),(vI c_3.Time.To),(vL eS c_3.Tags),(vI 1000000),(vI c_3.Most),(vI c_3.Cents)] rfl wz (af (ak (bE (aa (vL Spot.enc spots_1) (aa (vL Campaign.enc l_2) ?_)))))))))
     obtain ⟨r_20,hr_21,hF⟩:=bind_some hF
     refine PO 2 (.inr (by kernel_rfl)) (lC hr_21) rfl hb38 (by kernel_rfl) (by kernel_rfl) (by kernel_rfl) wz (λn_22=>aC 3 0 (.inr (by kernel_rfl)) (λ_ _ ag=>⟨.inr (.inl (dis1 (ag_ne ag (i:=0) (j:=1) rfl rfl (by decide)))),trivial⟩) oD vG rfl rfl (.d (.agg (Campaign.enc (⟨c_3.Key,c_3.Class,c_3.Time,c_3.Tags,1000000,c_3.Most,c_3.Cents⟩:Campaign)))) rfl wz (dU (([(⟨c_3.Key,c_3.Class,c_3.Time,c_3.Tags,1000000,c_3.Most,c_3.Cents⟩:Campaign)]:List Campaign).map Campaign.enc) Am Oz rfl rfl rfl rfl rfl wz ?_))
     obtain ⟨a_23,hz_24,hF⟩:=bind_some hF
     refine kT 5 (.inr (by kernel_rfl)) (λ_ _ ag=>⟨.inr (.inr (by kernel_rfl)),⟨.inr (.inr (by kernel_rfl)),trivial⟩⟩) (i:=1) NT NT oD z48 rfl (by decide) by48 (by decide) (λ_=>rfl) rfl rfl rfl hz_24 wz (λn_25 => ?_)
     obtain ⟨r_26,hr_27,hF⟩:=bind_some hF
     refine sG (bs:=[]) (os:=[]) 6 [] 1 1 (.inr (by kernel_rfl)) (λ_ _ ag=>by exact⟨.inr (.inr (by kernel_rfl)),⟨.inr (.inr (by kernel_rfl)),⟨.inr (.inr (by kernel_rfl)),trivial⟩⟩⟩) (FnM.unfz (args:=[(vL Spot.enc spots_1),(dV (av 0) 8 a_23)]) (po:=1) (enc:=Campaign.enc) (oo hr_27) rfl rfl) rfl hb33 rfl rfl rfl (by kernel_rfl) rfl (.inl rfl) rfl (by kernel_rfl) (by kernel_rfl) (by kernel_rfl) (by kernel_rfl) rfl (by decide) (by kernel_rfl) uf (CU rfl) wz ([(n_4,some (.cells 8 [(vS c_3.Key),(vS c_3.Class),(vI c_3.Time.From),(vI c_3.Time.To),(vL eS c_3.Tags),(vI 1000000),(vI c_3.Most),(vI c_3.Cents)])),(n_25,gB 8 Campaign.enc a_23)]:Hp) (by kernel_rfl) (aa (vI r_15) (aa (vI (w64 (r_26-r_15))) (aa (vI (w64 (r_26-r_15))) (aa (vI 0) (af (aO (H0:=([(n_4,some (.cells 8 [(vS c_3.Key),(vS c_3.Class),(vI c_3.Time.From),(vI c_3.Time.To),(vL eS c_3.Tags),(vI 1000000),(vI c_3.Most),(vI c_3.Cents)])),(n_25,gB 8 Campaign.enc a_23)]:Hp)) ([(6,(vI (w64 (r_26-r_15)))),(7,(vI 0))]:SL_) (by kernel_rfl) (wG (by kernel_rfl)) ?_))))))
     obtain rfl:=ae hF
     exact aA (aL [(vI (w64 (r_26-r_15))),(vI 0)] ⟨rfl,⟨rfl,trivial⟩⟩)
theorem fJ {n_1:Int} {r:Bool} (hF:cO n_1=some r) :
  FnM Tryz.prog 57 [(vI n_1)] [] (vB r) []:=by
 refine FnM.of_wH ⟨Tryz.prog,9,[],[]⟩ rfl Tryz.func57 rfl rfl (lb_ rfl) (by kernel_rfl) ?_
 unfold cO at hF
 refine ai (aa (vB false) (af (ak ?_)))
 obtain ⟨v_2,h_3,hF⟩:=bind_some hF
 refine aS [(2,(vB v_2))] [] ?_ ?_
 ·refine au (aa (vI n_1) (aa (vB (decide (n_1>=0))) ?_))
  rcases aj h_3 with⟨hc_4,h_3⟩|⟨hc_4,h_3⟩
  ·refine aD rfl hc_4 wz (aJ (vI n_1) wa rfl (aJ (vB (decide (n_1<345686400000))) wa rfl (aa (vB (decide (n_1<345686400000))) (aa (vB (decide (n_1<345686400000))) (af ?_)))))
   obtain rfl:=ae h_3
   exact cu
  ·refine aD rfl hc_4 wz (ah (ah (aa (vB false) (aa (vB false) (af ?_)))))
   obtain rfl:=ae h_3
   exact cu
 ·rintro ⟨⟩ _ sl_ H_ hp_ hq_
  refine aO _ hp_ hq_ ?_
  obtain rfl:=ae hF
  exact aA (aL [(vB v_2)] ⟨rfl,trivial⟩)
theorem xN {l_1:(List Campaign)} {plays_2:(List Play)} {atv_3:Int} {r:Int} (hF:jP l_1 plays_2 atv_3=some r) :
  FnM Tryz.prog 39 [(vL Campaign.enc l_1),(vL Play.enc plays_2),(vI atv_3)] [] (vI r) []:=by
 refine FnM.of_wH ⟨Tryz.prog,47,[],[]⟩ rfl Tryz.func39 rfl rfl (lb_ rfl) (by kernel_rfl) ?_
 unfold jP at hF
 refine ai (aa (vI 0) (af (ak (ai (aa (vL Campaign.enc l_1) ?_)))))
 obtain ⟨r_4,hr_5,hF⟩:=bind_some hF
 refine aF (gK hr_5) rfl hb35 rfl rfl rfl rfl wz (aa (vI r_4) (af (ai (aa (vI r_4) (aa (vB (r_4 != 0)) (af ?_))))))
 rcases aj hF with⟨hc_6,hF⟩|⟨hc_6,hF⟩
 ·refine aB rfl hc_6 (ai (aa (vI r_4) (aa (vI r_4) (af ?_))))
  obtain rfl:=ae hF
  exact aA (aL [(vI r_4)] ⟨rfl,trivial⟩)
 ·refine ay rfl hc_6 (ax (ak (ai (aa (vL Play.enc plays_2) (bH Oj rfl wz (aa (vB (decide ((plays_2.length:Int)>3000))) (af ?_)))))))
  rcases aj hF with⟨hc_7,hF⟩|⟨hc_7,hF⟩
  ·refine aB rfl hc_7 (ai (aa (vI 2) (af ?_)))
   obtain rfl:=ae hF
   exact aA (aL [(vI 2)] ⟨rfl,trivial⟩)
  ·refine ay rfl hc_7 (ax (ak (ai (aa (vL Play.enc plays_2) (bH Oj rfl wz (aa (vI 0) (af ?_)))))))
   obtain ⟨o_16,hj_17,hF⟩:=bind_some hF
   obtain ⟨hn_12,hj_17⟩:=aY hj_17
   refine bN (λ(s_13:Unit)=>[(2,(vI atv_3))]) (λ(s_13:Unit)=>[]) (λ(k_8:Nat)=>(λ(s_13:Unit)=>[(2,(vI atv_3)),(18,(vL Play.enc plays_2)),(19,(vI (plays_2.length:Int))),(20,(vI (k_8:Int)))])) (λk x s=>ik k x s) o_16 plays_2 () hj_17 rfl (aK rfl) ?_ ?_
   ·rintro ⟨k_8,l_9,s_13⟩ ⟨hL_15,hD_11⟩
    dsimp only at hL_15 hD_11
    cases l_9 with
    | nil =>
     obtain rfl:=ae hL_15
     refine ai (aa (vB (decide ((k_8:Int)<(plays_2.length:Int)))) (af ?_))
     refine ak (ay rfl (drop_nil hD_11) (aW ?_))
     exact aU (s_13) rfl rfl (aK rfl)
    | cons x_10 l_9 =>
     obtain ⟨c_,hc_14,hL_15⟩:=bind_some hL_15
     refine ai (aa (vB (decide ((k_8:Int)<(plays_2.length:Int)))) (af ?_))
     refine ak (aB rfl (bu hD_11) (ax ?_))
     unfold ik at hc_14
     refine ak (aM (ai (dC PH rfl rfl (bD hD_11) rfl wz (bK FU Ql rfl (.d (.agg (Play.enc x_10))) rfl wz (cz 0 (.inl rfl) z64 rfl wz (λn_18=>eB 0 il ft 0 FU rfl rfl (Play.v x_10) rfl wz (af (ak (ak ?_)))))))))
     obtain ⟨v_19,h_20,hc_14⟩:=bind_some hc_14
     refine aS [(2,(vI atv_3)),(9,(.ref n_18 0 0)),(18,(vL Play.enc plays_2)),(19,(vI (plays_2.length:Int))),(20,(vI (k_8:Int))),(33,(vB v_19))] [(n_18,some (.cells 4 (Play.v x_10)))] ?_ ?_
     ·refine au (aG pl64_0 rfl 0 rfl wz (aC 0 0 il ft sz9 ag9 rfl rfl (vS x_10.Player) rfl wz ?_))
      obtain ⟨r_21,hr_22,h_20⟩:=bind_some h_20
      refine aF (d9 hr_22) rfl AQ rfl rfl rfl rfl wz (aa (vB (!r_21)) ?_)
      rcases aj h_20 with⟨hc_23,h_20⟩|⟨hc_23,h_20⟩
      ·refine aD rfl hc_23 wz (ah (ah (ah (ah (aa (vB true) (af ?_))))))
       obtain rfl:=ae h_20
       exact cu
      ·refine aD rfl hc_23 wz (aG PU rfl 1 rfl wa (aC 0 0 il ft sz9 ag9 rfl rfl (vS x_10.Item) rfl wa ?_))
       obtain ⟨r_24,hr_25,h_20⟩:=bind_some h_20
       refine aF (d9 hr_25) rfl AQ rfl rfl rfl rfl wa (aJ (vB (!r_24)) wa rfl (aa (vB (!r_24)) (af ?_)))
       obtain rfl:=ae h_20
       exact cu
     ·rintro ⟨⟩ _ sl_ H_ hp_ hq_
      refine aO _ hp_ hq_ ?_
      rcases aj hc_14 with⟨hc_26,hc_14⟩|⟨hc_26,hc_14⟩
      ·refine aB rfl hc_26 (ai (aa (vI 5) (af ?_)))
       obtain rfl:=ae hc_14
       obtain rfl:=ae hL_15
       obtain rfl:=ae hF
       exact aA (aL [(vI 5)] ⟨rfl,trivial⟩)
      ·refine ay rfl hc_26 (ax (ak ?_))
       obtain ⟨v_27,h_28,hc_14⟩:=bind_some hc_14
       refine aS [(2,(vI atv_3)),(18,(vL Play.enc plays_2)),(19,(vI (plays_2.length:Int))),(20,(vI (k_8:Int))),(42,(vB v_27))] [(n_18,some (.cells 4 (Play.v x_10)))] ?_ ?_
       ·refine au (aG Jd rfl 2 rfl wz (aC 0 0 il ft sz3 ag3 rfl rfl (vI x_10.At) rfl wz ?_))
        obtain ⟨r_29,hr_30,h_28⟩:=bind_some h_28
        refine aF (fJ hr_30) rfl IU rfl rfl rfl rfl wz (aa (vB (!r_29)) ?_)
        rcases aj h_28 with⟨hc_31,h_28⟩|⟨hc_31,h_28⟩
        ·refine aD rfl hc_31 wz (ah (ah (ah (aa (vB true) (af ?_)))))
         obtain rfl:=ae h_28
         exact cu
        ·refine aD rfl hc_31 wz (aG pl64_3 rfl 3 rfl wa (aC 0 0 il ft sz3 ag3 rfl rfl (vI x_10.Long) rfl wa ?_))
         obtain ⟨r_32,hr_33,h_28⟩:=bind_some h_28
         refine aF (bA hr_33) rfl rC rfl rfl rfl rfl wa (aa (vB r_32) (af ?_))
         obtain rfl:=ae h_28
         exact cu
       ·rintro ⟨⟩ _ sl_ H_ hp_ hq_
        refine aO _ hp_ hq_ ?_
        rcases aj hc_14 with⟨hc_34,hc_14⟩|⟨hc_34,hc_14⟩
        ·refine aB rfl hc_34 (ai (aa (vI 1) (af ?_)))
         obtain rfl:=ae hc_14
         obtain rfl:=ae hL_15
         obtain rfl:=ae hF
         exact aA (aL [(vI 1)] ⟨rfl,trivial⟩)
        ·refine ay rfl hc_34 (ax (au (dB (bv hD_11 hn_12) wz rfl (aa (vI ((k_8+1:Nat):Int)) (af ?_)))))
         obtain rfl:=ae hc_14
         exact aV (k_8+1,l_9,()) ⟨hL_15,aR hD_11⟩ (ls_ _) rfl (aK rfl)
   ·rintro s_13 ho_ sl_ H_ hp_ hq_
    subst ho_
    refine aO _ hp_ hq_ (ak (ai (aa (vI atv_3) ?_)))
    obtain ⟨r_35,hr_36,hF⟩:=bind_some hF
    refine aF (fJ hr_36) rfl IU rfl rfl rfl rfl wz (aa (vB (!r_35)) (af ?_))
    rcases aj hF with⟨hc_37,hF⟩|⟨hc_37,hF⟩
    ·refine aB rfl hc_37 (ai (aa (vI 1) (af ?_)))
     obtain rfl:=ae hF
     exact aA (aL [(vI 1)] ⟨rfl,trivial⟩)
    ·refine ay rfl hc_37 (ax (ai (aa (vI 0) (af ?_))))
     obtain rfl:=ae hF
     exact aA (aL [(vI 0)] ⟨rfl,trivial⟩)
end Go.Proofs.YtkjlhdminmpmkacGreatDoor.Law

