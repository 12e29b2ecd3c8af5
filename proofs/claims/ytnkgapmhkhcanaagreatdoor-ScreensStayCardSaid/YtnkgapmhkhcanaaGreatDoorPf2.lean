/-
 The machine computes these plain functions (written by a program of ours).
-/
import Derived.Test.YtnkgapmhkhcanaaGreatDoorFacts
import Derived.Test.YtnkgapmhkhcanaaGreatDoorDefs
import Derived.Test.YtnkgapmhkhcanaaGreatDoorPf1
open Go Go.Eng Go.Proofs
namespace Go.Proofs.YtnkgapmhkhcanaaGreatDoor.Law
set_option maxRecDepth 100000
set_option linter.unusedVariables false
set_option maxHeartbeats 1000000
theorem lu {s_1:(List Int)} {r:(List Int)} (hF:bX s_1=some r) :
  FnM Tryz.prog 50 [(dV (aJ 0) 1 s_1)] (([]:List Box)++gI 1 eI s_1) (vL eI r) (([]:List Box).map some++gT s_1 none):=by
 refine FnM.of_wHv ⟨Tryz.prog,61,[],[]⟩ rfl Tryz.func50 rfl rfl (lb_ rfl) (by kernel_rfl) ?_
 unfold bX at hF
 refine ai (aa .nil (ah (ak (ai (aa (dV (aJ 0) 1 s_1) (Bv vF rfl wz (aa (vB (decide ((s_1.length:Int)<2))) (ah ?_))))))))
 rcases aj hF with⟨hc_2,hF⟩|⟨hc_2,hF⟩
 ·refine aC rfl hc_2 (ai (aa (dV (aJ 0) 1 s_1) (aa (dV (aJ 0) 1 s_1) (ah (jc 0 rfl (ze 0 0 rfl rfl (ze 2 0 rfl rfl (ze 6 0 rfl rfl (ze 9 0 rfl rfl (Db (i:=0) rfl ?_))))))))))
  obtain rfl:=ae hF
  exact aA (FK (bs:=([]:List Box)) (os:=([]:List Box)) (xs:=s_1) (o:=none) (.inr rfl) [(vL eI s_1)] ⟨rfl,trivial⟩ rfl rfl rfl rfl rfl (by kernel_rfl) Ab rfl)
 ·refine aB rfl hc_2 (ax (ak (ai (aa (vI 1) (ah ?_)))))
  obtain ⟨o_11,hj_12,hF⟩:=bind_some hF
  obtain ⟨nq_52,hj_12⟩:=fE hj_12
  refine iG (λ(s_8:Int)=>[(0,(dV (aJ 0) 1 s_1))]) (λ(s_8:Int)=>[((aJ 0),gB 1 eI s_1)]) (λ(k_3:Nat)=>(λ(s_8:Int)=>[(0,(dV (aJ 0) 1 s_1)),(3,(vI s_8))])) (λs=>aX s_1 s) o_11 nq_52 1 hj_12 rfl (aG rfl) ?_ ?_
  ·rintro ⟨k_3,s_8⟩ hL_10
   dsimp only at hL_10
   cases k_3 with
   | zero=>cases hL_10
   | succ k_3 =>
    obtain ⟨c_,hc_9,hL_10⟩:=bind_some hL_10
    unfold aX at hc_9
    refine ak (ai (aa (vI s_8) (aa (dV (aJ 0) 1 s_1) (Bv vF rfl wz (aa (vB (decide (s_8<(s_1.length:Int)))) (ah ?_))))))
    rcases aj hc_9 with⟨hc_13,hc_9⟩|⟨hc_13,hc_9⟩
    ·refine aC rfl hc_13 (ax (ak (aL (ak (bz (aa (dV (aJ 0) 1 s_1) (aa (vI s_8) ?_)))))))
     obtain ⟨_,hi_14,hc_9⟩:=bind_some hc_9
     refine tH o9 rfl rfl (qC hi_14) (mE hi_14) wz ?_
     obtain ⟨e_15,hy_16,hc_9⟩:=bind_some hc_9
     refine wK 3 0 (.inr (by kernel_rfl)) (λ_ _ ag=>trivial) sz3 ag3 rfl rfl hy_16 (vI e_15) rfl wz (aa (dV (aJ 0) 1 s_1) (aa (vI s_8) (aa (vI (w64 (s_8-1))) ?_)))
     obtain ⟨_,hi_17,hc_9⟩:=bind_some hc_9
     refine tH o9 rfl rfl (qC hi_17) (mE hi_17) wz ?_
     obtain ⟨e_18,hy_19,hc_9⟩:=bind_some hc_9
     refine wK 8 0 (.inr (by kernel_rfl)) (λ_ _ ag=>⟨.inl ⟨rfl,rfl⟩,trivial⟩) sz3 ag3 rfl rfl hy_19 (vI e_18) rfl wz (aa (vB (e_15==e_18)) (ah ?_))
     rcases aj hc_9 with⟨hc_20,hc_9⟩|⟨hc_20,hc_9⟩
     ·refine aC rfl hc_20 (ai (aa (dV (aJ 0) 1 s_1) (aa (vI s_8) ?_)))
      obtain ⟨_,hn_21,hc_9⟩:=bind_some hc_9
      replace hn_21:=neL_ne hn_21
      refine gP (v':=(vV (aJ 0) 1 s_1)) 0 rfl (zS hn_21) (gP (v':=(vV (aJ 0) 1 s_1)) 11 rfl (zS hn_21) (gP (v':=(vV (aJ 0) 1 s_1)) 16 rfl (zS hn_21) (gP (v':=(vV (aJ 0) 1 s_1)) 20 rfl (zS hn_21) (gP (v':=(vV (aJ 0) 1 s_1)) 26 rfl (zS hn_21) (h_reH 0 rfl (Mg hn_21) ?_)))))
      obtain ⟨_,hr_22,hc_9⟩:=bind_some hc_9
      refine Jw vF sz3 rfl rfl hr_22 wz (aa (.vs (aJ 0) 1 ((s_8).toNat) (((s_1.length:Int)).toNat-(s_8).toNat)) (ah (ak (ai (aa (vI 1) (ah ?_))))))
      obtain ⟨o_31,hj_32,hc_9⟩:=bind_some hc_9
      obtain ⟨nq_51,hj_32⟩:=fE hj_32
      refine iG (λ(s_28:(List Int)×Int×Int)=>[(0,(vV (aJ 0) 1 s_28.1)),(3,(vI s_28.2.1))]) (λ(s_28:(List Int)×Int×Int)=>[((aJ 0),some (bV 1 eI s_28.1))]) (λ(k_23:Nat)=>(λ(s_28:(List Int)×Int×Int)=>[(0,(vV (aJ 0) 1 s_28.1)),(3,(vI s_28.2.1)),(4,(.vs (aJ 0) 1 ((s_8).toNat) (((s_1.length:Int)).toNat-(s_8).toNat))),(5,(vI s_28.2.2))])) (λs=>bS s_1 s_8 s) o_31 nq_51 (s_1,s_8,1) hj_32 rfl (aG rfl) ?_ ?_
      ·rintro ⟨k_23,s_28⟩ hL_30
       dsimp only at hL_30
       cases k_23 with
       | zero=>cases hL_30
       | succ k_23 =>
        obtain ⟨c_,hc_29,hL_30⟩:=bind_some hL_30
        unfold bS at hc_29
        refine ak (ai (aa (vI s_28.2.2) (aa (.vs (aJ 0) 1 ((s_8).toNat) (((s_1.length:Int)).toNat-(s_8).toNat)) (h_lenp vF rfl wz (aa (vB (decide (s_28.2.2<(((((s_1.length:Int)).toNat-(s_8).toNat):Nat):Int)))) (ah ?_))))))
        rcases aj hc_29 with⟨hc_33,hc_29⟩|⟨hc_33,hc_29⟩
        ·refine aC rfl hc_33 (ax (ak (aL (ak (bz (aa (.vs (aJ 0) 1 ((s_8).toNat) (((s_1.length:Int)).toNat-(s_8).toNat)) (aa (vI s_28.2.2) ?_)))))))
         obtain ⟨_,hi_34,hc_29⟩:=bind_some hc_29
         refine GI o9 rfl rfl (OB hi_34) (LH hi_34) wz ?_
         obtain ⟨e_35,hy_36,hc_29⟩:=bind_some hc_29
         refine MJ 3 0 (.inr (by kernel_rfl)) (λ_ _ ag=>trivial) sz3 ag3 rfl rfl hy_36 (vI e_35) rfl wz (aa (.vs (aJ 0) 1 ((s_8).toNat) (((s_1.length:Int)).toNat-(s_8).toNat)) (aa (vI s_28.2.2) (aa (vI (w64 (s_28.2.2-1))) ?_)))
         obtain ⟨_,hi_37,hc_29⟩:=bind_some hc_29
         refine GI o9 rfl rfl (OB hi_37) (LH hi_37) wz ?_
         obtain ⟨e_38,hy_39,hc_29⟩:=bind_some hc_29
         refine MJ 8 0 (.inr (by kernel_rfl)) (λ_ _ ag=>⟨.inl ⟨rfl,rfl⟩,trivial⟩) sz3 ag3 rfl rfl hy_39 (vI e_38) rfl wz (aa (vB (e_35 != e_38)) (ah ?_))
         obtain ⟨v_40,h_41,hc_29⟩:=bind_some hc_29
         refine aP [(0,(vV (aJ 0) 1 v_40.1)),(3,(vI v_40.2)),(4,(.vs (aJ 0) 1 ((s_8).toNat) (((s_1.length:Int)).toNat-(s_8).toNat))),(5,(vI s_28.2.2))] [((aJ 0),some (bV 1 eI v_40.1))] ?_ ?_
         ·rcases aj h_41 with⟨hc_42,h_41⟩|⟨hc_42,h_41⟩
          ·refine aC rfl hc_42 (ai (aa (vV (aJ 0) 1 s_28.1) (aa (vI s_28.2.1) (aa (.vs (aJ 0) 1 ((s_8).toNat) (((s_1.length:Int)).toNat-(s_8).toNat)) (aa (vI s_28.2.2) ?_)))))
           obtain ⟨_,hi_43,h_41⟩:=bind_some h_41
           refine GI o9 rfl rfl (OB hi_43) (LH hi_43) wz ?_
           obtain ⟨e_44,hy_45,h_41⟩:=bind_some h_41
           refine MJ 0 0 il ft sz3 ag3 rfl rfl hy_45 (vI e_44) rfl wz ?_
           obtain ⟨_,hi_46,h_41⟩:=bind_some h_41
           refine GI o9 rfl rfl (qC hi_46) (mE hi_46) wz ?_
           obtain ⟨e_47,hy_48,h_41⟩:=bind_some h_41
           refine h_stv 0 il ft 0 sz3 rfl rfl hy_48 e_44 rfl wz (gP (v':=(vV (aJ 0) 1 (s_28.1.set (0+(s_28.2.1).toNat) e_44))) 0 rfl (Iq (by simp)) (gP (v':=(vV (aJ 0) 1 (s_28.1.set (0+(s_28.2.1).toNat) e_44))) 45 rfl (Iq (by simp)) (ah (au (aa (vI s_28.2.1) (aa (vI (w64 (s_28.2.1+1))) (aa (vI (w64 (s_28.2.1+1))) (ah ?_))))))))
           obtain rfl:=ae h_41
           exact cu
          ·refine aB rfl hc_42 (ax ?_)
           obtain rfl:=ae h_41
           exact cu
         ·rintro ⟨⟩ _ sl_ H_ hp_ hq_
          refine aM _ hp_ hq_ (au (aa (vI s_28.2.2) (aa (vI (w64 (s_28.2.2+1))) (aa (vI (w64 (s_28.2.2+1))) (ah ?_)))))
          obtain rfl:=ae hc_29
          exact aU (k_23,(v_40.1,v_40.2,(w64 (s_28.2.2+1)))) hL_30 (ls_ _) rfl (aG rfl)
        ·refine aB rfl hc_33 (aS ?_)
         obtain rfl:=ae hc_29
         obtain rfl:=ae hL_30
         exact aV ((s_28.1,s_28.2.1,s_28.2.2)) rfl rfl (aG rfl)
      ·rintro s_28 ho_ sl_ H_ hp_ hq_
       subst ho_
       refine aM _ hp_ hq_ (ai (aa (vV (aJ 0) 1 s_28.1) (aa (vI s_28.2.1) ?_)))
       obtain ⟨_,hr_49,hc_9⟩:=bind_some hc_9
       refine Jw vF sz3 rfl rfl hr_49 wz (h_clear (i:=0) 0 il ft 0 Pk sz3 z3 rfl rfl rfl (by decide) rfl (AO hr_49) rfl wz (gP (v':=(vV (aJ 0) 1 (s_28.1.take ((s_28.2.1).toNat)++List.replicate (((s_28.1.length:Int)).toNat-(s_28.2.1).toNat) 0++s_28.1.drop (((s_28.2.1).toNat)+(((s_28.1.length:Int)).toNat-(s_28.2.1).toNat))))) 0 rfl (Iq (Gf (AO hr_49))) (gP (v':=(vV (aJ 0) 1 (s_28.1.take ((s_28.2.1).toNat)++List.replicate (((s_28.1.length:Int)).toNat-(s_28.2.1).toNat) 0++s_28.1.drop (((s_28.2.1).toNat)+(((s_28.1.length:Int)).toNat-(s_28.2.1).toNat))))) 54 rfl (Iq (Gf (AO hr_49))) (ah (ai (aa (vV (aJ 0) 1 (s_28.1.take ((s_28.2.1).toNat)++List.replicate (((s_28.1.length:Int)).toNat-(s_28.2.1).toNat) 0++s_28.1.drop (((s_28.2.1).toNat)+(((s_28.1.length:Int)).toNat-(s_28.2.1).toNat)))) (aa (vI s_28.2.1) ?_)))))))
       obtain ⟨_,hr_50,hc_9⟩:=bind_some hc_9
       refine OX vF sz3 rfl rfl hr_50 wz (aa (.vs (aJ 0) 1 0 ((s_28.2.1).toNat)) (ah (H8 0 rfl (Gz 0 0 rfl rfl (O8 2 0 rfl rfl (AO hr_50) (Gz 54 0 rfl rfl (Gz 57 0 rfl rfl (O8 59 0 rfl rfl (AO hr_50) (Db (i:=0) rfl ?_)))))))))
       obtain rfl:=ae hc_9
       obtain rfl:=ae hL_10
       obtain rfl:=ae hF
       exact aA (FK (bs:=([]:List Box)) (os:=([]:List Box)) (xs:=s_1) (o:=none) (.inr rfl) [(vL eI (cutL (s_28.1.take ((s_28.2.1).toNat)++List.replicate (((s_28.1.length:Int)).toNat-(s_28.2.1).toNat) 0++s_28.1.drop (((s_28.2.1).toNat)+(((s_28.1.length:Int)).toNat-(s_28.2.1).toNat))) 0 ((s_28.2.1).toNat)))] ⟨rfl,trivial⟩ rfl rfl rfl rfl rfl (by kernel_rfl) Ab rfl)
     ·refine aB rfl hc_20 (ax (au (aa (vI s_8) (aa (vI (w64 (s_8+1))) (aa (vI (w64 (s_8+1))) (ah ?_))))))
      obtain rfl:=ae hc_9
      exact aU (k_3,(w64 (s_8+1))) hL_10 (ls_ _) rfl (aG rfl)
    ·refine aB rfl hc_13 (aS ?_)
     obtain rfl:=ae hc_9
     obtain rfl:=ae hL_10
     exact aV (s_8) rfl rfl (aG rfl)
  ·rintro s_8 ho_ sl_ H_ hp_ hq_
   subst ho_
   refine aM _ hp_ hq_ (ai (aa (dV (aJ 0) 1 s_1) (aa (dV (aJ 0) 1 s_1) (ah (jc 0 rfl (ze 0 0 rfl rfl (ze 2 0 rfl rfl (ze 60 0 rfl rfl (Db (i:=0) rfl ?_)))))))))
   obtain rfl:=ae hF
   exact aA (FK (bs:=([]:List Box)) (os:=([]:List Box)) (xs:=s_1) (o:=none) (.inr rfl) [(vL eI s_1)] ⟨rfl,trivial⟩ rfl rfl rfl rfl rfl (by kernel_rfl) Ab rfl)
theorem BN {a_1:Run} {b_2:Run} {r:Int} (hF:nN a_1 b_2=some r) :
  FnM Tryz.prog 78 [(.d (.agg (Run.enc a_1))),(.d (.agg (Run.enc b_2)))] [] (vI r) []:=by
 refine FnM.of_wH ⟨Tryz.prog,10,[],[]⟩ rfl Tryz.func78 rfl rfl (lb_ rfl) (by kernel_rfl) ?_
 unfold nN at hF
 refine ai (dY 0 (.inl rfl) [(vI a_1.f_from),(vI a_1.f_to)] rfl rfl wz (λn_3=>dY 0 (.inl rfl) [(vI b_2.f_from),(vI b_2.f_to)] rfl rfl wz (λn_4=>aa (vI 0) (ah (ai (ay j6 rfl 0 rfl wz (av 0 0 il ft sz3 ag3 rfl rfl (vI a_1.f_from) rfl wz (ay j6 rfl 0 rfl wz (av 0 1 il ft sz3 ag3 rfl rfl (vI b_2.f_from) rfl wz (aa (vI (w64 (a_1.f_from-b_2.f_from))) (aa (vI (w64 (a_1.f_from-b_2.f_from))) (ah ?_))))))))))))
 obtain rfl:=ae hF
 exact aA (aK [(vI (w64 (a_1.f_from-b_2.f_from)))] ⟨rfl,trivial⟩)
theorem zA {x_1:Int} {r:Int} (hF:qZ x_1=some r) :
  FnM Tryz.prog 104 [(.d (.int .u64 x_1))] [] (vI r) []:=by
 refine FnM.of_wH ⟨Tryz.prog,25,[],[]⟩ rfl Tryz.func104 rfl rfl (lb_ rfl) (by kernel_rfl) ?_
 unfold qZ at hF
 refine ai (aa (vI 0) (ah (ak (ai (aa (.d (.int .u64 x_1)) (aa (vB (decide (x_1>=4294967296))) (ah ?_)))))))
 obtain ⟨v_2,h_3,hF⟩:=bind_some hF
 refine aP [(0,(.d (.int .u64 v_2.1))),(2,(vI v_2.2))] [] ?_ ?_
 ·rcases aj h_3 with⟨hc_4,h_3⟩|⟨hc_4,h_3⟩
  ·refine aC rfl hc_4 (ai (aa (.d (.int .u64 x_1)) ?_))
   obtain ⟨q_5,hz_6,h_3⟩:=bind_some h_3
   refine Mc rfl rfl hz_6 wz (aa (.d (.int .u64 q_5)) (ah (au (aa (vI 32) (ah ?_)))))
   obtain rfl:=ae h_3
   exact cu
  ·refine aB rfl hc_4 (ax ?_)
   obtain rfl:=ae h_3
   exact cu
 ·rintro ⟨⟩ _ sl_ H_ hp_ hq_
  refine aM _ hp_ hq_ (ak (ai (aa (.d (.int .u64 v_2.1)) (aa (vB (decide (v_2.1>=65536))) (ah ?_)))))
  obtain ⟨v_7,h_8,hF⟩:=bind_some hF
  refine aP [(0,(.d (.int .u64 v_7.1))),(2,(vI v_7.2))] [] ?_ ?_
  ·rcases aj h_8 with⟨hc_9,h_8⟩|⟨hc_9,h_8⟩
   ·refine aC rfl hc_9 (ai (aa (.d (.int .u64 v_2.1)) ?_))
    obtain ⟨q_10,hz_11,h_8⟩:=bind_some h_8
    refine Mc rfl rfl hz_11 wz (aa (.d (.int .u64 q_10)) (ah (au (aa (vI v_2.2) (aa (vI (w64 (v_2.2+16))) (aa (vI (w64 (v_2.2+16))) (ah ?_)))))))
    obtain rfl:=ae h_8
    exact cu
   ·refine aB rfl hc_9 (ax ?_)
    obtain rfl:=ae h_8
    exact cu
  ·rintro ⟨⟩ _ sl_ H_ hp_ hq_
   refine aM _ hp_ hq_ (ak (ai (aa (.d (.int .u64 v_7.1)) (aa (vB (decide (v_7.1>=256))) (ah ?_)))))
   obtain ⟨v_12,h_13,hF⟩:=bind_some hF
   refine aP [(0,(.d (.int .u64 v_12.1))),(2,(vI v_12.2))] [] ?_ ?_
   ·rcases aj h_13 with⟨hc_14,h_13⟩|⟨hc_14,h_13⟩
    ·refine aC rfl hc_14 (ai (aa (.d (.int .u64 v_7.1)) ?_))
     obtain ⟨q_15,hz_16,h_13⟩:=bind_some h_13
     refine Mc rfl rfl hz_16 wz (aa (.d (.int .u64 q_15)) (ah (au (aa (vI v_7.2) (aa (vI (w64 (v_7.2+8))) (aa (vI (w64 (v_7.2+8))) (ah ?_)))))))
     obtain rfl:=ae h_13
     exact cu
    ·refine aB rfl hc_14 (ax ?_)
     obtain rfl:=ae h_13
     exact cu
   ·rintro ⟨⟩ _ sl_ H_ hp_ hq_
    refine aM _ hp_ hq_ (ai (aa (vI v_12.2) (aa (.d (.int .u64 v_12.1)) (qa Aw un5 rfl wz ?_))))
    obtain ⟨b_17,hy_18,hF⟩:=bind_some hF
    refine kS un9 rfl rfl hy_18 wz (qa un5 un3 rfl wz (aa (vI (w64 (v_12.2+(w64 (b_17.toNat:Int))))) (aa (vI (w64 (v_12.2+(w64 (b_17.toNat:Int))))) (ah ?_))))
    obtain rfl:=ae hF
    exact aA (aK [(vI (w64 (v_12.2+(w64 (b_17.toNat:Int)))))] ⟨rfl,trivial⟩)
theorem BO {x_1:Int} {r:Int} (hF:lI x_1=some r) :
  FnM Tryz.prog 76 [(.d (.int .u64 x_1))] [] (vI r) []:=by
 refine FnM.of_wH ⟨Tryz.prog,8,[],[]⟩ rfl Tryz.func76 rfl rfl (lb_ rfl) (by kernel_rfl) ?_
 unfold lI at hF
 refine ai (aa (vI 0) (ah (ak (aB rfl rfl (ax (ai (aa (.d (.int .u64 x_1)) ?_)))))))
 obtain ⟨r_2,hr_3,hF⟩:=bind_some hF
 refine aD (zA hr_3) rfl hb104 rfl rfl rfl rfl wz (aa (vI r_2) (ah ?_))
 obtain rfl:=ae hF
 exact aA (aK [(vI r_2)] ⟨rfl,trivial⟩)
theorem kJ {data_1:(List Run)} {a_2:Int} {b_3:Int} {r:(List Run)} (hF:bT data_1 a_2 b_3=some r) :
  FnM Tryz.prog 121 [(dV (aJ 0) 2 data_1),(vI a_2),(vI b_3),(.fn 78 [])] (([]:List Box)++gI 2 Run.enc data_1) (.tup []) (([]:List Box).map some++gT data_1 (gB 2 Run.enc r)):=by
 refine FnM.of_wHv ⟨Tryz.prog,53,[],[]⟩ rfl Tryz.func121 rfl rfl (lb_ rfl) (by kernel_rfl) ?_
 unfold bT at hF
 refine ai (aa (vI a_2) (aa (vI (w64 (a_2+1))) (aa (vI (w64 (a_2+1))) (ah ?_))))
 obtain ⟨o_13,hj_14,hF⟩:=bind_some hF
 obtain ⟨nq_51,hj_14⟩:=fE hj_14
 refine iG (λ(s_10:(List Run)×Int)=>[]) (λ(s_10:(List Run)×Int)=>[((aJ 0),gB 2 Run.enc s_10.1)]) (λ(k_5:Nat)=>(λ(s_10:(List Run)×Int)=>[(0,(dV (aJ 0) 2 s_10.1)),(1,(vI a_2)),(2,(vI b_3)),(3,(.fn 78 [])),(8,(vI s_10.2))])) (λs=>bN b_3 a_2 s) o_13 nq_51 (data_1,(w64 (a_2+1))) hj_14 rfl (aG rfl) ?_ ?_
 ·rintro ⟨k_5,s_10⟩ hL_12
  dsimp only at hL_12
  cases k_5 with
  | zero=>cases hL_12
  | succ k_5 =>
   obtain ⟨c_,hc_11,hL_12⟩:=bind_some hL_12
   unfold bN at hc_11
   refine ak (ai (aa (vI s_10.2) (aa (vI b_3) (aa (vB (decide (s_10.2<b_3))) (ah ?_)))))
   rcases aj hc_11 with⟨hc_15,hc_11⟩|⟨hc_15,hc_11⟩
   ·refine aC rfl hc_15 (ax (ak (aL (ai (aa (vI s_10.2) (aa (vI s_10.2) (ah ?_)))))))
    obtain ⟨o_24,hj_25,hc_11⟩:=bind_some hc_11
    obtain ⟨nq_50,hj_25⟩:=fE hj_25
    refine iG (λ(s_21:(List Run)×Int)=>[(0,(dV (aJ 0) 2 s_21.1)),(1,(vI a_2)),(2,(vI b_3)),(3,(.fn 78 [])),(8,(vI s_10.2))]) (λ(s_21:(List Run)×Int)=>[((aJ 0),gB 2 Run.enc s_21.1)]) (λ(k_16:Nat)=>(λ(s_21:(List Run)×Int)=>[(0,(dV (aJ 0) 2 s_21.1)),(1,(vI a_2)),(2,(vI b_3)),(3,(.fn 78 [])),(8,(vI s_10.2)),(9,(vI s_21.2))])) (λs=>dh a_2 s) o_24 nq_50 (s_10.1,s_10.2) hj_25 rfl (aG rfl) ?_ ?_
    ·rintro ⟨k_16,s_21⟩ hL_23
     dsimp only at hL_23
     cases k_16 with
     | zero=>cases hL_23
     | succ k_16 =>
      obtain ⟨c_,hc_22,hL_23⟩:=bind_some hL_23
      unfold dh at hc_22
      refine ak (ak ?_)
      obtain ⟨v_26,h_27,hc_22⟩:=bind_some hc_22
      refine aP [(0,(dV (aJ 0) 2 s_21.1)),(1,(vI a_2)),(2,(vI b_3)),(3,(.fn 78 [])),(8,(vI s_10.2)),(9,(vI s_21.2)),(34,(vB v_26))] [((aJ 0),gB 2 Run.enc s_21.1)] ?_ ?_
      ·refine bz (aa (vI s_21.2) (aa (vI a_2) (aa (vB (decide (s_21.2>a_2))) ?_)))
       rcases aj h_27 with⟨hc_28,h_27⟩|⟨hc_28,h_27⟩
       ·refine aF rfl hc_28 wz (aI (.fn 78 []) wa rfl (aI (dV (aJ 0) 2 s_21.1) wa rfl (aI (vI s_21.2) wa rfl ?_)))
        obtain ⟨_,hi_29,h_27⟩:=bind_some h_27
        refine tH lT rfl rfl (qC hi_29) (mE hi_29) wa ?_
        obtain ⟨e_30,hy_31,h_27⟩:=bind_some h_27
        refine wK 8 0 (.inr (by kernel_rfl)) (λ_ _ ag=>trivial) mY wR rfl rfl hy_31 (.d (.agg (Run.enc e_30))) rfl wa (aI (dV (aJ 0) 2 s_21.1) wa rfl (aI (vI s_21.2) wa rfl (aI (vI (w64 (s_21.2-1))) wa rfl ?_)))
        obtain ⟨_,hi_32,h_27⟩:=bind_some h_27
        refine tH lT rfl rfl (qC hi_32) (mE hi_32) wa ?_
        obtain ⟨e_33,hy_34,h_27⟩:=bind_some h_27
        refine wK 13 0 (.inr (by kernel_rfl)) (λ_ _ ag=>⟨.inl ⟨rfl,rfl⟩,trivial⟩) mY wR rfl rfl hy_34 (.d (.agg (Run.enc e_33))) rfl wa ?_
        obtain ⟨r_35,hr_36,h_27⟩:=bind_some h_27
        refine aD (BN hr_36) rfl hb78 rfl rfl rfl rfl wa (aI (vB (decide (r_35<0))) wa rfl (aa (vB (decide (r_35<0))) (ah ?_)))
        obtain rfl:=ae h_27
        exact cu
       ·refine aF rfl hc_28 wz (af (af (af (af (af (af (af (af (af (af (af (af (aa (vB false) (ah ?_))))))))))))))
        obtain rfl:=ae h_27
        exact cu
      ·rintro ⟨⟩ _ sl_ H_ hp_ hq_
       refine aM _ hp_ hq_ ?_
       rcases aj hc_22 with⟨hc_37,hc_22⟩|⟨hc_37,hc_22⟩
       ·refine aC rfl hc_37 (ax (ak (aL (bz (aa (dV (aJ 0) 2 s_21.1) (aa (vI s_21.2) (aa (dV (aJ 0) 2 s_21.1) (aa (vI s_21.2) (aa (vI (w64 (s_21.2-1))) (aa (dV (aJ 0) 2 s_21.1) (aa (vI s_21.2) (aa (vI (w64 (s_21.2-1))) ?_))))))))))))
        obtain ⟨_,hi_38,hc_22⟩:=bind_some hc_22
        refine tH lT rfl rfl (qC hi_38) (mE hi_38) wz ?_
        obtain ⟨e_39,hy_40,hc_22⟩:=bind_some hc_22
        refine wK 9 0 (.inr (by kernel_rfl)) (λ_ _ ag=>trivial) mY wR rfl rfl hy_40 (.d (.agg (Run.enc e_39))) rfl wz (aa (dV (aJ 0) 2 s_21.1) (aa (vI s_21.2) ?_))
        obtain ⟨_,hi_41,hc_22⟩:=bind_some hc_22
        refine tH lT rfl rfl (qC hi_41) (mE hi_41) wz ?_
        obtain ⟨e_42,hy_43,hc_22⟩:=bind_some hc_22
        refine wK 13 0 (.inr (by kernel_rfl)) (λ_ _ ag=>⟨.inl ⟨rfl,rfl⟩,trivial⟩) mY wR rfl rfl hy_43 (.d (.agg (Run.enc e_42))) rfl wz ?_
        obtain ⟨_,hi_44,hc_22⟩:=bind_some hc_22
        refine tH lT rfl rfl (qC hi_44) (mE hi_44) wz ?_
        obtain ⟨e_45,hy_46,hc_22⟩:=bind_some hc_22
        refine zm 15 (.inr (by kernel_rfl)) (λ_ _ ag=>⟨.inr (.inr (by kernel_rfl)),⟨.inr (.inr (by kernel_rfl)),trivial⟩⟩) 0 mY rfl rfl hy_46 e_39 rfl wz (gP (v':=(dV (aJ 0) 2 (s_21.1.set (0+(s_21.2).toNat) e_39))) 0 rfl (jX (by simp)) (gP (v':=(dV (aJ 0) 2 (s_21.1.set (0+(s_21.2).toNat) e_39))) 37 rfl (jX (by simp)) (gP (v':=(dV (aJ 0) 2 (s_21.1.set (0+(s_21.2).toNat) e_39))) 39 rfl (jX (by simp)) (gP (v':=(dV (aJ 0) 2 (s_21.1.set (0+(s_21.2).toNat) e_39))) 42 rfl (jX (by simp)) (gP (v':=(dV (aJ 0) 2 (s_21.1.set (0+(s_21.2).toNat) e_39))) 47 rfl (jX (by simp)) ?_)))))
        obtain ⟨_,hi_47,hc_22⟩:=bind_some hc_22
        refine tH lT rfl rfl (qC hi_47) (mE hi_47) wz ?_
        obtain ⟨e_48,hy_49,hc_22⟩:=bind_some hc_22
        refine zm 17 (.inr (by kernel_rfl)) (λ_ _ ag=>⟨.inr (.inr (by kernel_rfl)),⟨.inr (.inr (by kernel_rfl)),⟨.inr (.inr (by kernel_rfl)),trivial⟩⟩⟩) 0 mY rfl rfl hy_49 e_42 rfl wz (gP (v':=(dV (aJ 0) 2 ((s_21.1.set (0+(s_21.2).toNat) e_39).set (0+((w64 (s_21.2-1))).toNat) e_42))) 0 rfl (jX (by simp)) (gP (v':=(dV (aJ 0) 2 ((s_21.1.set (0+(s_21.2).toNat) e_39).set (0+((w64 (s_21.2-1))).toNat) e_42))) 37 rfl (jX (by simp)) (gP (v':=(dV (aJ 0) 2 ((s_21.1.set (0+(s_21.2).toNat) e_39).set (0+((w64 (s_21.2-1))).toNat) e_42))) 39 rfl (jX (by simp)) (gP (v':=(dV (aJ 0) 2 ((s_21.1.set (0+(s_21.2).toNat) e_39).set (0+((w64 (s_21.2-1))).toNat) e_42))) 42 rfl (jX (by simp)) (gP (v':=(dV (aJ 0) 2 ((s_21.1.set (0+(s_21.2).toNat) e_39).set (0+((w64 (s_21.2-1))).toNat) e_42))) 47 rfl (jX (by simp)) (ah (au (aa (vI s_21.2) (aa (vI (w64 (s_21.2-1))) (aa (vI (w64 (s_21.2-1))) (ah ?_)))))))))))
        obtain rfl:=ae hc_22
        exact aU (k_16,(((s_21.1.set (0+(s_21.2).toNat) e_39).set (0+((w64 (s_21.2-1))).toNat) e_42),(w64 (s_21.2-1)))) hL_23 (ls_ _) rfl (aG rfl)
       ·refine aB rfl hc_37 (aS ?_)
        obtain rfl:=ae hc_22
        obtain rfl:=ae hL_23
        exact aV ((s_21.1,s_21.2)) rfl rfl (aG rfl)
    ·rintro s_21 ho_ sl_ H_ hp_ hq_
     subst ho_
     refine aM _ hp_ hq_ (au (aa (vI s_10.2) (aa (vI (w64 (s_10.2+1))) (aa (vI (w64 (s_10.2+1))) (ah ?_)))))
     obtain rfl:=ae hc_11
     exact aU (k_5,(s_21.1,(w64 (s_10.2+1)))) hL_12 (ls_ _) rfl (aG rfl)
   ·refine aB rfl hc_15 (aS ?_)
    obtain rfl:=ae hc_11
    obtain rfl:=ae hL_12
    exact aV ((s_10.1,s_10.2)) rfl rfl (aG rfl)
 ·rintro s_10 ho_ sl_ H_ hp_ hq_
  subst ho_
  show uw _ _ _ _ _ _ _ _
  obtain rfl:=ae hF
  exact Al (H0:=([((aJ 0),gB 2 Run.enc s_10.1)]:Hp)) (sl':=envS []) hq_ (FK (bs:=([]:List Box)) (os:=([]:List Box)) (xs:=data_1) (o:=gB 2 Run.enc s_10.1) (.inl rfl) [] trivial rfl rfl rfl rfl rfl (by kernel_rfl) pz rfl)
theorem lY {data_1:(List Run)} {a_2:Int} {b_3:Int} {limit_4:Int} {r:(List Run)} (hF:bU data_1 a_2 b_3 limit_4=some r) :
  FnM Tryz.prog 105 [(dV (aJ 0) 2 data_1),(vI a_2),(vI b_3),(vI limit_4),(.fn 78 [])] (([]:List Box)++gI 2 Run.enc data_1) (.tup []) (([]:List Box).map some++gT data_1 (gB 2 Run.enc r)):=by
 refine FnM.of_wHv ⟨Tryz.prog,148,[],[]⟩ rfl Tryz.func105 rfl rfl (lb_ rfl) (by kernel_rfl) ?_
 unfold bU at hF
 refine ai (aa (vB true) (ah (ai (aa (vB true) (ah ?_)))))
 obtain ⟨o_14,hj_15,hF⟩:=bind_some hF
 obtain ⟨nq_21,hj_15⟩:=fE hj_15
 refine iG (λ(s_11:Unit)=>[]) (λ(s_11:Unit)=>[((aJ 0),gB 2 Run.enc data_1)]) (λ(k_6:Nat)=>(λ(s_11:Unit)=>[(0,(dV (aJ 0) 2 data_1)),(1,(vI a_2)),(2,(vI b_3)),(3,(vI limit_4)),(4,(.fn 78 [])),(10,(vB true)),(11,(vB true))])) (λs=>cZ b_3 a_2 data_1 limit_4 s) o_14 nq_21 () hj_15 rfl (aG rfl) ?_ ?_
 ·rintro ⟨k_6,s_11⟩ hL_13
  dsimp only at hL_13
  cases k_6 with
  | zero=>cases hL_13
  | succ k_6 =>
   obtain ⟨c_,hc_12,hL_13⟩:=bind_some hL_13
   unfold cZ at hc_12
   refine aL (ai (aa (vI b_3) (aa (vI a_2) (aa (vI (w64 (b_3-a_2))) (aa (vI (w64 (b_3-a_2))) (ah (ak (ai (aa (vI (w64 (b_3-a_2))) (aa (vB (decide ((w64 (b_3-a_2))<=12))) (ah ?_)))))))))))
   rcases aj hc_12 with⟨hc_16,hc_12⟩|⟨hc_16,hc_12⟩
   ·refine aC rfl hc_16 (ai (aa (dV (aJ 0) 2 data_1) (aa (vI a_2) (aa (vI b_3) (aa (.fn 78 []) ?_)))))
    obtain ⟨r_17,hr_18,hc_12⟩:=bind_some hc_12
    obtain ⟨_,hs_19,hc_12⟩:=bind_some hc_12
    replace hs_19:=nM hs_19
    refine nP 0 [] 0 0 il ft (kJ hr_18) rfl hb121 rfl rfl rfl (by kernel_rfl) rfl (.inr (.inl rfl)) rfl (by kernel_rfl) (by kernel_rfl) (by kernel_rfl) (by kernel_rfl) rfl (by decide) (by kernel_rfl) pz (yT hs_19) wz ([((aJ 0),gB 2 Run.enc r_17)]:Hp) (by kernel_rfl) (gP (v':=(dV (aJ 0) 2 r_17)) 0 rfl (jX hs_19.symm) (gP (v':=(dV (aJ 0) 2 r_17)) 26 rfl (jX hs_19.symm) (ah ?_)))
    obtain rfl:=ae hc_12
    obtain rfl:=ae hL_13
    obtain rfl:=ae hF
    exact aA (FK (bs:=([]:List Box)) (os:=([]:List Box)) (xs:=data_1) (o:=gB 2 Run.enc r_17) (.inr rfl) [] trivial rfl rfl rfl rfl rfl (by kernel_rfl) pz rfl)
   ·refine aB rfl hc_16 (ax (ak (ai (aa (vI limit_4) (aa (vB (limit_4==0)) (ah ?_))))))
    rcases aj hc_12 with⟨hc_20,hc_12⟩|⟨hc_20,hc_12⟩
    ·refine aC rfl hc_20 (ai (aa (dV (aJ 0) 2 data_1) (aa (vI a_2) (aa (vI b_3) (aa (.fn 78 []) ?_)))))
     cases hc_12
    ·refine aB rfl hc_20 (ax (ak (ai (aa (vB true) (aa (vB false) (ah (aB rfl rfl (ax (ai (aa (dV (aJ 0) 2 data_1) (aa (vI a_2) (aa (vI b_3) (aa (.fn 78 []) ?_)))))))))))))
     cases hc_12
 ·rintro s_11 ho_ sl_ H_ hp_ hq_
  subst ho_
  show uw _ _ _ _ _ _ _ _
  obtain rfl:=ae hF
  exact Al (H0:=([((aJ 0),gB 2 Run.enc data_1)]:Hp)) (sl':=envS []) hq_ (FK (bs:=([]:List Box)) (os:=([]:List Box)) (xs:=data_1) (o:=gB 2 Run.enc data_1) (.inl rfl) [] trivial rfl rfl rfl rfl rfl (by kernel_rfl) pz rfl)
theorem kT {x_1:(List Run)} {r:(List Run)} (hF:bB x_1=some r) :
  FnM Tryz.prog 77 [(dV (aJ 0) 2 x_1),(.fn 78 [])] (([]:List Box)++gI 2 Run.enc x_1) (.tup []) (([]:List Box).map some++gT x_1 (gB 2 Run.enc r)):=by
 refine FnM.of_wHv ⟨Tryz.prog,14,[],[]⟩ rfl Tryz.func77 rfl rfl (lb_ rfl) (by kernel_rfl) ?_
 unfold bB at hF
 refine ai (aa (dV (aJ 0) 2 x_1) (Bv xg rfl wz (aa (vI (x_1.length:Int)) (ah (au (aa (dV (aJ 0) 2 x_1) (aa (vI (x_1.length:Int)) (aa (vI (x_1.length:Int)) (qa un3 PS rfl wz ?_)))))))))
 obtain ⟨r_3,hr_4,hF⟩:=bind_some hF
 refine aD (BO hr_4) rfl hb76 rfl rfl rfl rfl wz (aa (.fn 78 []) ?_)
 obtain ⟨r_5,hr_6,hF⟩:=bind_some hF
 obtain ⟨_,hs_7,hF⟩:=bind_some hF
 replace hs_7:=nM hs_7
 refine nP 0 [] 0 0 il ft (lY hr_6) rfl hb105 rfl rfl rfl (by kernel_rfl) rfl (.inr (.inl rfl)) rfl (by kernel_rfl) (by kernel_rfl) (by kernel_rfl) (by kernel_rfl) rfl (by decide) (by kernel_rfl) pz (yT hs_7) wz ([((aJ 0),gB 2 Run.enc r_5)]:Hp) (by kernel_rfl) (gP (v':=(dV (aJ 0) 2 r_5)) 0 rfl (jX hs_7.symm) (gP (v':=(dV (aJ 0) 2 r_5)) 5 rfl (jX hs_7.symm) (gP (v':=(dV (aJ 0) 2 r_5)) 7 rfl (jX hs_7.symm) (ah ?_))))
 show uw _ _ _ _ _ _ _ _
 obtain rfl:=ae hF
 exact FK (bs:=([]:List Box)) (os:=([]:List Box)) (xs:=x_1) (o:=gB 2 Run.enc r_5) (.inl rfl) [] trivial rfl rfl rfl rfl rfl (by kernel_rfl) pz rfl
theorem oU {l_1:(List Rect)} {y_2:Int} {r:(List Run)} (hF:fH l_1 y_2=some r) :
  FnM Tryz.prog 52 [(vL Rect.enc l_1),(vI y_2)] [] (vL Run.enc r) []:=by
 refine FnM.of_wH ⟨Tryz.prog,84,[],[]⟩ rfl Tryz.func52 rfl rfl (lb_ rfl) (by kernel_rfl) ?_
 unfold fH at hF
 refine ai (aa .nil (ah (ai (aa .nil (ah (ak (ai (aa (vL Rect.enc l_1) (bJ uC rfl wz (aa (vI 0) (ah (iV (λn_9 => ?_)))))))))))))
 obtain ⟨o_14,hj_15,hF⟩:=bind_some hF
 obtain ⟨hn_7,hj_15⟩:=aR hj_15
 refine fK (σ:=(List Run)) (N:=Nm) (λp=>(λ(s_8:List Run) (n_11:Nm)=>([(5,(gV n_11 2 s_8))]:SL_)) p.1 p.2) (λp=>(λ(s_8:List Run) (n_11:Nm)=>([(n_11,gB 2 Run.enc s_8)]:Hp)) p.1 p.2) (λ(k_3:Nat)=>(λp=>(λ(s_8:List Run) (n_11:Nm)=>([(1,(vI y_2)),(5,(gV n_11 2 s_8)),(12,(vL Rect.enc l_1)),(13,(vI (l_1.length:Int))),(14,(vI (k_3:Int)))]:SL_)) p.1 p.2)) (λk x s=>jm y_2 k x s) o_14 l_1 (([]:List Run),n_9) hj_15 rfl (aG rfl) ?_ ?_
 ·rintro ⟨k_3,l_4,s_8,n_11⟩ ⟨hL_13,hD_6⟩
  dsimp only at hL_13 hD_6
  cases l_4 with
  | nil =>
   obtain rfl:=ae hL_13
   refine ai (aa (vB (decide ((k_3:Int)<(l_1.length:Int)))) (ah ?_))
   refine ak (aB rfl (drop_nil hD_6) (aS ?_))
   exact aV (s_8,n_11) rfl rfl (aG rfl)
  | cons x_5 l_4 =>
   obtain ⟨c_,hc_12,hL_13⟩:=bind_some hL_13
   refine ai (aa (vB (decide ((k_3:Int)<(l_1.length:Int)))) (ah ?_))
   refine ak (aC rfl (aW hD_6) (ax ?_))
   unfold jm at hc_12
   refine ak (aL (ai (dM tO rfl rfl (bu hD_6) rfl wz (bI eU jN rfl (.d (.agg (Rect.enc x_5))) rfl wz (bf 0 (.inl rfl) z27 rfl wz (λn_16=>cz 0 il ft 1 eU rfl rfl (Rect.v x_5) rfl wz (ah (ak ?_))))))))
   obtain ⟨v_17,h_18,hc_12⟩:=bind_some hc_12
   refine aP [(1,(vI y_2)),(5,(gV n_11 2 s_8)),(7,(.ref n_16 0 0)),(12,(vL Rect.enc l_1)),(13,(vI (l_1.length:Int))),(14,(vI (k_3:Int))),(30,(vB v_17))] [(n_11,gB 2 Run.enc s_8),(n_16,some (.cells 4 (Rect.v x_5)))] ?_ ?_
   ·refine au (ay gu rfl 1 rfl wz (av 0 1 il ft sz3 ag3 rfl rfl (vI x_5.Y) rfl wz (aa (vI y_2) (aa (vB (decide (x_5.Y<=y_2))) ?_))))
    rcases aj h_18 with⟨hc_19,h_18⟩|⟨hc_19,h_18⟩
    ·refine aF rfl hc_19 wz (aI (vI y_2) wa rfl (ay gu rfl 1 rfl wa (av 0 1 il ft sz3 ag3 rfl rfl (vI x_5.Y) rfl wa (ay lQ rfl 3 rfl wa (av 0 1 il ft sz3 ag3 rfl rfl (vI x_5.H) rfl wa (aI (vI (w64 (x_5.Y+x_5.H))) wa rfl (aI (vB (decide (y_2<(w64 (x_5.Y+x_5.H))))) wa rfl (aa (vB (decide (y_2<(w64 (x_5.Y+x_5.H))))) (ah ?_)))))))))
     obtain rfl:=ae h_18
     exact cu
    ·refine aF rfl hc_19 wz (af (af (af (af (af (af (af (aa (vB false) (ah ?_)))))))))
     obtain rfl:=ae h_18
     exact cu
   ·rintro ⟨⟩ _ sl_ H_ hp_ hq_
    refine aM _ hp_ hq_ ?_
    obtain ⟨v_20,h_21,hc_12⟩:=bind_some hc_12
    refine lS (β:=Nm) (λ(n_22:Nm)=>([(1,(vI y_2)),(5,(gV n_22 2 v_20)),(12,(vL Rect.enc l_1)),(13,(vI (l_1.length:Int))),(14,(vI (k_3:Int)))]:SL_)) (λ(n_22:Nm)=>([(n_22,gB 2 Run.enc v_20),(n_16,some (.cells 4 (Rect.v x_5)))]:Hp)) (λ_=>True) ?_ ?_
    ·rcases aj h_21 with⟨hc_23,h_21⟩|⟨hc_23,h_21⟩
     ·refine aC rfl hc_23 (au (aa (gV n_11 2 s_8) (ay ic rfl 0 rfl wz (av 0 1 il ft sz3 ag3 rfl rfl (vI x_5.X) rfl wz (ay ic rfl 0 rfl wz (av 0 1 il ft sz3 ag3 rfl rfl (vI x_5.X) rfl wz (ay mg rfl 2 rfl wz (av 0 1 il ft sz3 ag3 rfl rfl (vI x_5.W) rfl wz (aa (vI (w64 (x_5.X+x_5.W))) (aI (.d (.agg (Run.enc (⟨x_5.X,(w64 (x_5.X+x_5.W))⟩:Run)))) wz (by kernel_rfl) (fI (([(⟨x_5.X,(w64 (x_5.X+x_5.W))⟩:Run)]:List Run).map Run.enc) lT LZ rfl rfl rfl rfl rfl wz ?_)))))))))))
      obtain ⟨a_24,hz_25,h_21⟩:=bind_some h_21
      refine kH 0 il ft (i:=0) Cs Cs mY z116 rfl (by decide) MG (by decide) (λ_=>rfl) rfl rfl rfl hz_25 wz (λn_26=>aa (gV n_26 2 a_24) (ah ?_))
      obtain rfl:=ae h_21
      exact aV n_26 trivial rfl (aG rfl)
     ·refine aB rfl hc_23 (ax ?_)
      obtain rfl:=ae h_21
      exact aV n_11 trivial rfl (aG rfl)
    ·rintro n_22 _ sl_ H_ hp_ hq_
     refine aM _ hp_ hq_ (au (dL (aZ hD_6 hn_7) wz rfl (aa (vI ((k_3+1:Nat):Int)) (ah ?_))))
     obtain rfl:=ae hc_12
     exact aU (k_3+1,l_4,v_20,n_22) ⟨hL_13,aN hD_6⟩ (ls_ _) rfl (aG rfl)
 ·rintro ⟨s_8,n_11⟩ ho_ sl_ H_ hp_ hq_
  subst ho_
  refine aM _ hp_ hq_ (ai (aa (gV n_11 2 s_8) ?_))
  obtain ⟨r_27,hr_28,hF⟩:=bind_some hF
  obtain ⟨_,hs_29,hF⟩:=bind_some hF
  replace hs_29:=nM hs_29
  refine nP 0 [] 0 0 il ft (kT hr_28) rfl hb77 rfl rfl rfl (by kernel_rfl) rfl (.inl rfl) rfl (by kernel_rfl) (by kernel_rfl) (by kernel_rfl) (by kernel_rfl) rfl (by decide) (by kernel_rfl) pz (yT hs_29) wz ([(n_11,gB 2 Run.enc r_27)]:Hp) (by kernel_rfl) (gP (v':=(gV n_11 2 r_27)) 43 rfl (iq hs_29.symm) (gP (v':=(gV n_11 2 r_27)) 5 rfl (iq hs_29.symm) (ah (ai (aa .nil (ah (ak (ai (aa (gV n_11 2 r_27) (Cf xg rfl wz (aa (vI 0) (ah (jc 0 rfl (fF 5 0 rfl rfl (fF 43 0 rfl rfl (fF 45 0 rfl rfl (iV (λn_36 => ?_))))))))))))))))))
  obtain ⟨o_41,hj_42,hF⟩:=bind_some hF
  obtain ⟨hn_34,hj_42⟩:=aR hj_42
  refine fK (σ:=(List Run)) (N:=Nm) (λp=>(λ(s_35:List Run) (n_38:Nm)=>([(8,(gV n_38 2 s_35))]:SL_)) p.1 p.2) (λp=>(λ(s_35:List Run) (n_38:Nm)=>([(n_11,gF 2 Run.enc r_27),(n_38,gB 2 Run.enc s_35)]:Hp)) p.1 p.2) (λ(k_30:Nat)=>(λp=>(λ(s_35:List Run) (n_38:Nm)=>([(8,(gV n_38 2 s_35)),(45,(vL Run.enc r_27)),(46,(vI (r_27.length:Int))),(47,(vI (k_30:Int)))]:SL_)) p.1 p.2)) (λk x s=>gD k x s) o_41 r_27 (([]:List Run),n_36) hj_42 rfl (aG rfl) ?_ ?_
  ·rintro ⟨k_30,l_31,s_35,n_38⟩ ⟨hL_40,hD_33⟩
   dsimp only at hL_40 hD_33
   cases l_31 with
   | nil =>
    obtain rfl:=ae hL_40
    refine ai (aa (vB (decide ((k_30:Int)<(r_27.length:Int)))) (ah ?_))
    refine ak (aB rfl (drop_nil hD_33) (aS ?_))
    exact aV (s_35,n_38) rfl rfl (aG rfl)
   | cons x_32 l_31 =>
    obtain ⟨c_,hc_39,hL_40⟩:=bind_some hL_40
    refine ai (aa (vB (decide ((k_30:Int)<(r_27.length:Int)))) (ah ?_))
    refine ak (aC rfl (aW hD_33) (ax ?_))
    unfold gD at hc_39
    refine ak (aL (ai (dM lT rfl rfl (bu hD_33) rfl wz (bI mY wR rfl (.d (.agg (Run.enc x_32))) rfl wz (bf 0 (.inl rfl) z116 rfl wz (λn_43=>cz 0 il ft 2 mY rfl rfl [(vI x_32.f_from),(vI x_32.f_to)] rfl wz (ah (ai (aa (gV n_38 2 s_35) (Cf xg rfl wz (aa (vI (w64 ((s_35.length:Int)-1))) (aa (vI (w64 ((s_35.length:Int)-1))) (ah (ak ?_))))))))))))))
    obtain ⟨v_44,h_45,hc_39⟩:=bind_some hc_39
    refine aP [(8,(gV n_38 2 s_35)),(10,(.ref n_43 0 0)),(11,(vI (w64 ((s_35.length:Int)-1)))),(45,(vL Run.enc r_27)),(46,(vI (r_27.length:Int))),(47,(vI (k_30:Int))),(65,(vB v_44))] [(n_11,gF 2 Run.enc r_27),(n_38,gB 2 Run.enc s_35),(n_43,some (.cells 2 [(vI x_32.f_from),(vI x_32.f_to)]))] ?_ ?_
    ·refine bz (aa (vI (w64 ((s_35.length:Int)-1))) (aa (vB (decide ((w64 ((s_35.length:Int)-1))>=0))) ?_))
     rcases aj h_45 with⟨hc_46,h_45⟩|⟨hc_46,h_45⟩
     ·refine aF rfl hc_46 wz (ay j6 rfl 0 rfl wa (av 4 2 (.inr (by kernel_rfl)) (λ_ _ ag=>trivial) sz3 ag3 rfl rfl (vI x_32.f_from) rfl wa (aI (gV n_38 2 s_35) wa rfl (aI (vI (w64 ((s_35.length:Int)-1))) wa rfl ?_))))
      obtain ⟨_,hi_47,h_45⟩:=bind_some h_45
      refine EU lT rfl rfl (qC hi_47) (mE hi_47) wa (ay qj rfl 1 rfl wa ?_)
      obtain ⟨e_48,hy_49,h_45⟩:=bind_some h_45
      refine wK 9 1 (.inr (by kernel_rfl)) (λ_ _ ag=>⟨.inl ⟨rfl,rfl⟩,trivial⟩) sz3 ag3 rfl rfl hy_49 (vI e_48.f_to) rfl wa (aI (vB (decide (x_32.f_from<=e_48.f_to))) wa rfl (aa (vB (decide (x_32.f_from<=e_48.f_to))) (ah ?_)))
      obtain rfl:=ae h_45
      exact cu
     ·refine aF rfl hc_46 wz (af (af (af (af (af (af (af (af (aa (vB false) (ah ?_))))))))))
      obtain rfl:=ae h_45
      exact cu
    ·rintro ⟨⟩ _ sl_ H_ hp_ hq_
     refine aM _ hp_ hq_ ?_
     obtain ⟨v_50,h_51,hc_39⟩:=bind_some hc_39
     refine lS (β:=Nm) (λ(n_52:Nm)=>([(8,(gV n_52 2 v_50)),(45,(vL Run.enc r_27)),(46,(vI (r_27.length:Int))),(47,(vI (k_30:Int)))]:SL_)) (λ(n_52:Nm)=>([(n_11,gF 2 Run.enc r_27),(n_52,gB 2 Run.enc v_50),(n_43,some (.cells 2 [(vI x_32.f_from),(vI x_32.f_to)]))]:Hp)) (λ_=>True) ?_ ?_
     ·rcases aj h_51 with⟨hc_53,h_51⟩|⟨hc_53,h_51⟩
      ·refine aC rfl hc_53 (bz (aa (gV n_38 2 s_35) (aa (vI (w64 ((s_35.length:Int)-1))) (aa (gV n_38 2 s_35) (aa (vI (w64 ((s_35.length:Int)-1))) ?_)))))
       obtain ⟨_,hi_54,h_51⟩:=bind_some h_51
       refine EU lT rfl rfl (qC hi_54) (mE hi_54) wz (ay qj rfl 1 rfl wz ?_)
       obtain ⟨e_55,hy_56,h_51⟩:=bind_some h_51
       refine wK 6 1 (.inr (by kernel_rfl)) (λ_ _ ag=>trivial) sz3 ag3 rfl rfl hy_56 (vI e_55.f_to) rfl wz (ay qj rfl 1 rfl wz (av 8 2 (.inr (by kernel_rfl)) (λ_ _ ag=>⟨.inl ⟨rfl,rfl⟩,trivial⟩) sz3 ag3 rfl rfl (vI x_32.f_to) rfl wz (jV (vI (bW e_55.f_to x_32.f_to)) rfl (.inr rfl) wz ?_)))
       obtain ⟨_,hi_57,h_51⟩:=bind_some h_51
       refine EU lT rfl rfl (qC hi_57) (mE hi_57) wz (ay qj rfl 1 rfl wz ?_)
       obtain ⟨e_58,hy_59,h_51⟩:=bind_some h_51
       refine zm 12 (.inr (by kernel_rfl)) (λ_ _ ag=>⟨.inr (.inr (by kernel_rfl)),⟨.inr (.inr (by kernel_rfl)),trivial⟩⟩) 1 sz3 rfl rfl hy_59 (⟨e_58.f_from,(bW e_55.f_to x_32.f_to)⟩:Run) rfl wz (gP (v':=(gV n_38 2 (s_35.set (0+((w64 ((s_35.length:Int)-1))).toNat) (⟨e_58.f_from,(bW e_55.f_to x_32.f_to)⟩:Run)))) 8 rfl (iq (by simp)) (gP (v':=(gV n_38 2 (s_35.set (0+((w64 ((s_35.length:Int)-1))).toNat) (⟨e_58.f_from,(bW e_55.f_to x_32.f_to)⟩:Run)))) 66 rfl (iq (by simp)) (gP (v':=(gV n_38 2 (s_35.set (0+((w64 ((s_35.length:Int)-1))).toNat) (⟨e_58.f_from,(bW e_55.f_to x_32.f_to)⟩:Run)))) 68 rfl (iq (by simp)) (ah ?_))))
       obtain rfl:=ae h_51
       exact aV n_38 trivial rfl (aG rfl)
      ·refine aB rfl hc_53 (au (aa (gV n_38 2 s_35) (av 0 2 il ft mY wR rfl rfl (.d (.agg (Run.enc x_32))) rfl wz (fI (([x_32]:List Run).map Run.enc) lT LZ rfl rfl rfl rfl rfl wz ?_))))
       obtain ⟨a_60,hz_61,h_51⟩:=bind_some h_51
       refine kH 0 il ft (i:=1) Cs Cs mY z116 rfl (by decide) MG (by decide) (λ_=>rfl) rfl rfl rfl hz_61 wz (λn_62=>aa (gV n_62 2 a_60) (ah ?_))
       obtain rfl:=ae h_51
       exact aV n_62 trivial rfl (aG rfl)
     ·rintro n_52 _ sl_ H_ hp_ hq_
      refine aM _ hp_ hq_ (au (dL (aZ hD_33 hn_34) wz rfl (aa (vI ((k_30+1:Nat):Int)) (ah ?_))))
      obtain rfl:=ae hc_39
      exact aU (k_30+1,l_31,v_50,n_52) ⟨hL_40,aN hD_33⟩ (ls_ _) rfl (aG rfl)
  ·rintro ⟨s_35,n_38⟩ ho_ sl_ H_ hp_ hq_
   subst ho_
   refine aM _ hp_ hq_ (ai (aa (gV n_38 2 s_35) (aa (gV n_38 2 s_35) (ah (jc 1 rfl (fF 4 1 rfl rfl (fF 8 1 rfl rfl (fF 83 1 rfl rfl ?_))))))))
   obtain rfl:=ae hF
   exact aA (aK [(vL Run.enc s_35)] ⟨rfl,trivial⟩)
theorem xP {l_1:(List Run)} {m_2:(List Run)} {r:(List Run)} (hF:jP l_1 m_2=some r) :
  FnM Tryz.prog 51 [(vL Run.enc l_1),(vL Run.enc m_2)] [] (vL Run.enc r) []:=by
 refine FnM.of_wH ⟨Tryz.prog,88,[],[]⟩ rfl Tryz.func51 rfl rfl (lb_ rfl) (by kernel_rfl) ?_
 unfold jP at hF
 refine ai (aa .nil (ah (ai (aa .nil (ah (ai (aa (vI 0) (ah (ak (ai (aa (vL Run.enc l_1) (bJ xg rfl wz (aa (vI 0) (ah (iV (λn_9 => ?_))))))))))))))))
 obtain ⟨o_14,hj_15,hF⟩:=bind_some hF
 obtain ⟨hn_7,hj_15⟩:=aR hj_15
 refine fK (σ:=(List Run)×Int) (N:=Nm) (λp=>(λ(s_8:(List Run)×Int) (n_11:Nm)=>([(5,(gV n_11 2 s_8.1))]:SL_)) p.1 p.2) (λp=>(λ(s_8:(List Run)×Int) (n_11:Nm)=>([(n_11,gB 2 Run.enc s_8.1)]:Hp)) p.1 p.2) (λ(k_3:Nat)=>(λp=>(λ(s_8:(List Run)×Int) (n_11:Nm)=>([(1,(vL Run.enc m_2)),(5,(gV n_11 2 s_8.1)),(6,(vI s_8.2)),(10,(vL Run.enc l_1)),(11,(vI (l_1.length:Int))),(12,(vI (k_3:Int)))]:SL_)) p.1 p.2)) (λk x s=>iw m_2 k x s) o_14 l_1 ((([]:List Run),0),n_9) hj_15 rfl (aG rfl) ?_ ?_
 ·rintro ⟨k_3,l_4,s_8,n_11⟩ ⟨hL_13,hD_6⟩
  dsimp only at hL_13 hD_6
  cases l_4 with
  | nil =>
   obtain rfl:=ae hL_13
   refine ai (aa (vB (decide ((k_3:Int)<(l_1.length:Int)))) (ah ?_))
   refine ak (aB rfl (drop_nil hD_6) (aS ?_))
   exact aV (s_8,n_11) rfl rfl (aG rfl)
  | cons x_5 l_4 =>
   obtain ⟨c_,hc_12,hL_13⟩:=bind_some hL_13
   refine ai (aa (vB (decide ((k_3:Int)<(l_1.length:Int)))) (ah ?_))
   refine ak (aC rfl (aW hD_6) (ax ?_))
   unfold iw at hc_12
   refine ak (aL (ai (dM lT rfl rfl (bu hD_6) rfl wz (bI mY wR rfl (.d (.agg (Run.enc x_5))) rfl wz (bf 0 (.inl rfl) z116 rfl wz (λn_16=>cz 0 il ft 1 mY rfl rfl [(vI x_5.f_from),(vI x_5.f_to)] rfl wz (ah (ak ?_))))))))
   obtain ⟨o_25,hj_26,hc_12⟩:=bind_some hc_12
   obtain ⟨nq_72,hj_26⟩:=fE hj_26
   refine iG (λ(s_22:Int)=>[(1,(vL Run.enc m_2)),(5,(gV n_11 2 s_8.1)),(6,(vI s_22)),(8,(.ref n_16 0 0)),(10,(vL Run.enc l_1)),(11,(vI (l_1.length:Int))),(12,(vI (k_3:Int)))]) (λ(s_22:Int)=>[(n_11,gB 2 Run.enc s_8.1),(n_16,some (.cells 2 [(vI x_5.f_from),(vI x_5.f_to)]))]) (λ(k_17:Nat)=>(λ(s_22:Int)=>[(1,(vL Run.enc m_2)),(5,(gV n_11 2 s_8.1)),(6,(vI s_22)),(8,(.ref n_16 0 0)),(10,(vL Run.enc l_1)),(11,(vI (l_1.length:Int))),(12,(vI (k_3:Int)))])) (λs=>fM m_2 x_5 s) o_25 nq_72 s_8.2 hj_26 rfl (aG rfl) ?_ ?_
   ·rintro ⟨k_17,s_22⟩ hL_24
    dsimp only at hL_24
    cases k_17 with
    | zero=>cases hL_24
    | succ k_17 =>
     obtain ⟨c_,hc_23,hL_24⟩:=bind_some hL_24
     unfold fM at hc_23
     refine ak (ak ?_)
     obtain ⟨v_27,h_28,hc_23⟩:=bind_some hc_23
     refine aP [(1,(vL Run.enc m_2)),(5,(gV n_11 2 s_8.1)),(6,(vI s_22)),(8,(.ref n_16 0 0)),(10,(vL Run.enc l_1)),(11,(vI (l_1.length:Int))),(12,(vI (k_3:Int))),(29,(vB v_27))] [(n_11,gB 2 Run.enc s_8.1),(n_16,some (.cells 2 [(vI x_5.f_from),(vI x_5.f_to)]))] ?_ ?_
     ·refine bz (aa (vI s_22) (aa (vL Run.enc m_2) (bJ xg rfl wz (aa (vB (decide (s_22<(m_2.length:Int)))) ?_))))
      rcases aj h_28 with⟨hc_29,h_28⟩|⟨hc_29,h_28⟩
      ·refine aF rfl hc_29 wz (aI (vL Run.enc m_2) wa rfl (aI (vI s_22) wa rfl ?_))
       obtain ⟨y_30,hy_31,h_28⟩:=bind_some h_28
       refine dM lT rfl rfl hy_31 rfl wa (ng qj rfl [.int .i64 y_30.f_to] rfl rfl wa (bI sz3 ag3 rfl (vI y_30.f_to) rfl wa (ay j6 rfl 0 rfl wa (av 11 1 (.inr (by kernel_rfl)) (λ_ _ ag=>trivial) sz3 ag3 rfl rfl (vI x_5.f_from) rfl wa (aI (vB (decide (y_30.f_to<=x_5.f_from))) wa rfl (aa (vB (decide (y_30.f_to<=x_5.f_from))) (ah ?_)))))))
       obtain rfl:=ae h_28
       exact cu
      ·refine aF rfl hc_29 wz (af (af (af (af (af (af (af (af (aa (vB false) (ah ?_))))))))))
       obtain rfl:=ae h_28
       exact cu
     ·rintro ⟨⟩ _ sl_ H_ hp_ hq_
      refine aM _ hp_ hq_ ?_
      rcases aj hc_23 with⟨hc_32,hc_23⟩|⟨hc_32,hc_23⟩
      ·refine aC rfl hc_32 (ax (aL (au (aa (vI s_22) (aa (vI (w64 (s_22+1))) (aa (vI (w64 (s_22+1))) (ah ?_)))))))
       obtain rfl:=ae hc_23
       exact aU (k_17,(w64 (s_22+1))) hL_24 (ls_ _) rfl (aG rfl)
      ·refine aB rfl hc_32 (aS ?_)
       obtain rfl:=ae hc_23
       obtain rfl:=ae hL_24
       exact aV (s_22) rfl rfl (aG rfl)
   ·rintro s_22 ho_ sl_ H_ hp_ hq_
    subst ho_
    refine aM _ hp_ hq_ (ak (ai (aa (vI s_22) (aa (vI s_22) (ah ?_)))))
    obtain ⟨o_43,hj_44,hc_12⟩:=bind_some hc_12
    obtain ⟨nq_71,hj_44⟩:=fE hj_44
    refine Js (σ:=(List Run)×Int×Int) (N:=Nm) (λp=>(λ(s_38:(List Run)×Int×Int) (n_40:Nm)=>([(1,(vL Run.enc m_2)),(5,(gV n_40 2 s_38.1)),(6,(vI s_22)),(8,(.ref n_16 0 0)),(10,(vL Run.enc l_1)),(11,(vI (l_1.length:Int))),(12,(vI (k_3:Int)))]:SL_)) p.1 p.2) (λp=>(λ(s_38:(List Run)×Int×Int) (n_40:Nm)=>([(n_40,gB 2 Run.enc s_38.1),(n_16,some (.cells 2 [(vI s_38.2.2),(vI x_5.f_to)]))]:Hp)) p.1 p.2) (λ(k_33:Nat)=>(λp=>(λ(s_38:(List Run)×Int×Int) (n_40:Nm)=>([(1,(vL Run.enc m_2)),(5,(gV n_40 2 s_38.1)),(6,(vI s_22)),(8,(.ref n_16 0 0)),(9,(vI s_38.2.1)),(10,(vL Run.enc l_1)),(11,(vI (l_1.length:Int))),(12,(vI (k_3:Int)))]:SL_)) p.1 p.2)) (λs=>eD m_2 x_5 s) o_43 nq_71 ((s_8.1,s_22,x_5.f_from),n_11) hj_44 rfl (aG rfl) ?_ ?_
    ·rintro ⟨k_33,s_38,n_40⟩ hL_42
     dsimp only at hL_42
     cases k_33 with
     | zero=>cases hL_42
     | succ k_33 =>
      obtain ⟨c_,hc_41,hL_42⟩:=bind_some hL_42
      unfold eD at hc_41
      refine ak (ak ?_)
      obtain ⟨v_45,h_46,hc_41⟩:=bind_some hc_41
      refine aP [(1,(vL Run.enc m_2)),(5,(gV n_40 2 s_38.1)),(6,(vI s_22)),(8,(.ref n_16 0 0)),(9,(vI s_38.2.1)),(10,(vL Run.enc l_1)),(11,(vI (l_1.length:Int))),(12,(vI (k_3:Int))),(46,(vB v_45))] [(n_40,gB 2 Run.enc s_38.1),(n_16,some (.cells 2 [(vI s_38.2.2),(vI x_5.f_to)]))] ?_ ?_
      ·refine bz (aa (vI s_38.2.1) (aa (vL Run.enc m_2) (bJ xg rfl wz (aa (vB (decide (s_38.2.1<(m_2.length:Int)))) ?_))))
       rcases aj h_46 with⟨hc_47,h_46⟩|⟨hc_47,h_46⟩
       ·refine aF rfl hc_47 wz (aI (vL Run.enc m_2) wa rfl (aI (vI s_38.2.1) wa rfl ?_))
        obtain ⟨y_48,hy_49,h_46⟩:=bind_some h_46
        refine dM lT rfl rfl hy_49 rfl wa (ng j6 rfl [.int .i64 y_48.f_from,.int .i64 y_48.f_to] rfl rfl wa (bI sz3 ag3 rfl (vI y_48.f_from) rfl wa (ay qj rfl 1 rfl wa (av 11 1 (.inr (by kernel_rfl)) (λ_ _ ag=>trivial) sz3 ag3 rfl rfl (vI x_5.f_to) rfl wa (aI (vB (decide (y_48.f_from<x_5.f_to))) wa rfl (aa (vB (decide (y_48.f_from<x_5.f_to))) (ah ?_)))))))
        obtain rfl:=ae h_46
        exact cu
       ·refine aF rfl hc_47 wz (af (af (af (af (af (af (af (af (aa (vB false) (ah ?_))))))))))
        obtain rfl:=ae h_46
        exact cu
      ·rintro ⟨⟩ _ sl_ H_ hp_ hq_
       refine aM _ hp_ hq_ ?_
       rcases aj hc_41 with⟨hc_50,hc_41⟩|⟨hc_50,hc_41⟩
       ·refine aC rfl hc_50 (ax (ak (aL (ak (ak (bz (aa (vL Run.enc m_2) (aa (vI s_38.2.1) ?_))))))))
        obtain ⟨y_51,hy_52,hc_41⟩:=bind_some hc_41
        refine dM lT rfl rfl hy_52 rfl wz (ng j6 rfl [.int .i64 y_51.f_from,.int .i64 y_51.f_to] rfl rfl wz (bI sz3 ag3 rfl (vI y_51.f_from) rfl wz (ay j6 rfl 0 rfl wz (av 6 1 (.inr (by kernel_rfl)) (λ_ _ ag=>trivial) sz3 ag3 rfl rfl (vI s_38.2.2) rfl wz (aa (vB (decide (y_51.f_from>s_38.2.2))) (ah ?_))))))
        obtain ⟨v_53,h_54,hc_41⟩:=bind_some hc_41
        refine lS (β:=Nm) (λ(n_55:Nm)=>([(1,(vL Run.enc m_2)),(5,(gV n_55 2 v_53)),(6,(vI s_22)),(8,(.ref n_16 0 0)),(9,(vI s_38.2.1)),(10,(vL Run.enc l_1)),(11,(vI (l_1.length:Int))),(12,(vI (k_3:Int)))]:SL_)) (λ(n_55:Nm)=>([(n_55,gB 2 Run.enc v_53),(n_16,some (.cells 2 [(vI s_38.2.2),(vI x_5.f_to)]))]:Hp)) (λ_=>True) ?_ ?_
        ·rcases aj h_54 with⟨hc_56,h_54⟩|⟨hc_56,h_54⟩
         ·refine aC rfl hc_56 (bz (aa (gV n_40 2 s_38.1) (ay j6 rfl 0 rfl wz (av 2 1 (.inr (by kernel_rfl)) (λ_ _ ag=>trivial) sz3 ag3 rfl rfl (vI s_38.2.2) rfl wz (aa (vL Run.enc m_2) (aa (vI s_38.2.1) ?_))))))
          obtain ⟨y_57,hy_58,h_54⟩:=bind_some h_54
          refine dM lT rfl rfl hy_58 rfl wz (ng j6 rfl [.int .i64 y_57.f_from,.int .i64 y_57.f_to] rfl rfl wz (bI sz3 ag3 rfl (vI y_57.f_from) rfl wz (aI (.d (.agg (Run.enc (⟨s_38.2.2,y_57.f_from⟩:Run)))) wz (by kernel_rfl) (fI (([(⟨s_38.2.2,y_57.f_from⟩:Run)]:List Run).map Run.enc) lT LZ rfl rfl rfl rfl rfl wz ?_))))
          obtain ⟨a_59,hz_60,h_54⟩:=bind_some h_54
          refine kH 10 (.inr (by kernel_rfl)) (λ_ _ ag=>⟨.inr (.inr (by kernel_rfl)),trivial⟩) (i:=0) Cs Cs mY z116 rfl (by decide) MG (by decide) (λ_=>rfl) rfl rfl rfl hz_60 wz (λn_61=>aa (gV n_61 2 a_59) (ah ?_))
          obtain rfl:=ae h_54
          exact aV n_61 trivial rfl (aG rfl)
         ·refine aB rfl hc_56 (ax ?_)
          obtain rfl:=ae h_54
          exact aV n_40 trivial rfl (aG rfl)
        ·rintro n_55 _ sl_ H_ hp_ hq_
         refine aM _ hp_ hq_ (bz (ay j6 rfl 0 rfl wz (av 1 1 (.inr (by kernel_rfl)) (λ_ _ ag=>trivial) sz3 ag3 rfl rfl (vI s_38.2.2) rfl wz (aa (vL Run.enc m_2) (aa (vI s_38.2.1) ?_)))))
         obtain ⟨y_62,hy_63,hc_41⟩:=bind_some hc_41
         refine dM lT rfl rfl hy_63 rfl wz (ng qj rfl [.int .i64 y_62.f_to] rfl rfl wz (bI sz3 ag3 rfl (vI y_62.f_to) rfl wz (jV (vI (bW s_38.2.2 y_62.f_to)) rfl (.inr rfl) wz (ay j6 rfl 0 rfl wz (cz 9 (.inr (by kernel_rfl)) (λ_ _ ag=>⟨.inr (.inr (by kernel_rfl)),trivial⟩) 1 sz3 rfl rfl [(vI (bW s_38.2.2 y_62.f_to)),(vI x_5.f_to)] rfl wz (ah (au (aa (vI s_38.2.1) (aa (vI (w64 (s_38.2.1+1))) (aa (vI (w64 (s_38.2.1+1))) (ah ?_)))))))))))
         obtain rfl:=ae hc_41
         exact aU (k_33,(v_53,(w64 (s_38.2.1+1)),(bW s_38.2.2 y_62.f_to)),n_55) hL_42 (ls_ _) rfl (aG rfl)
       ·refine aB rfl hc_50 (aS ?_)
        obtain rfl:=ae hc_41
        obtain rfl:=ae hL_42
        exact aV ((s_38.1,s_38.2.1,s_38.2.2),n_40) rfl rfl (aG rfl)
    ·rintro ⟨s_38,n_40⟩ ho_ sl_ H_ hp_ hq_
     subst ho_
     refine aM _ hp_ hq_ (ai (ay j6 rfl 0 rfl wz (av 0 1 il ft sz3 ag3 rfl rfl (vI s_38.2.2) rfl wz (ay qj rfl 1 rfl wz (av 0 1 il ft sz3 ag3 rfl rfl (vI x_5.f_to) rfl wz (aa (vB (decide (s_38.2.2<x_5.f_to))) (ah ?_)))))))
     obtain ⟨v_64,h_65,hc_12⟩:=bind_some hc_12
     refine lS (β:=Nm) (λ(n_66:Nm)=>([(1,(vL Run.enc m_2)),(5,(gV n_66 2 v_64)),(6,(vI s_22)),(10,(vL Run.enc l_1)),(11,(vI (l_1.length:Int))),(12,(vI (k_3:Int)))]:SL_)) (λ(n_66:Nm)=>([(n_66,gB 2 Run.enc v_64),(n_16,some (.cells 2 [(vI s_38.2.2),(vI x_5.f_to)]))]:Hp)) (λ_=>True) ?_ ?_
     ·rcases aj h_65 with⟨hc_67,h_65⟩|⟨hc_67,h_65⟩
      ·refine aC rfl hc_67 (au (aa (gV n_40 2 s_38.1) (av 0 1 il ft mY wR rfl rfl (.d (.agg (Run.enc (⟨s_38.2.2,x_5.f_to⟩:Run)))) rfl wz (fI (([(⟨s_38.2.2,x_5.f_to⟩:Run)]:List Run).map Run.enc) lT LZ rfl rfl rfl rfl rfl wz ?_))))
       obtain ⟨a_68,hz_69,h_65⟩:=bind_some h_65
       refine kH 0 il ft (i:=0) Cs Cs mY z116 rfl (by decide) MG (by decide) (λ_=>rfl) rfl rfl rfl hz_69 wz (λn_70=>aa (gV n_70 2 a_68) (ah ?_))
       obtain rfl:=ae h_65
       exact aV n_70 trivial rfl (aG rfl)
      ·refine aB rfl hc_67 (ax ?_)
       obtain rfl:=ae h_65
       exact aV n_40 trivial rfl (aG rfl)
     ·rintro n_66 _ sl_ H_ hp_ hq_
      refine aM _ hp_ hq_ (au (dL (aZ hD_6 hn_7) wz rfl (aa (vI ((k_3+1:Nat):Int)) (ah ?_))))
      obtain rfl:=ae hc_12
      exact aU (k_3+1,l_4,(v_64,s_22),n_66) ⟨hL_13,aN hD_6⟩ (ls_ _) rfl (aG rfl)
 ·rintro ⟨s_8,n_11⟩ ho_ sl_ H_ hp_ hq_
  subst ho_
  refine aM _ hp_ hq_ (ai (aa (gV n_11 2 s_8.1) (aa (gV n_11 2 s_8.1) (ah (jc 0 rfl (fF 4 0 rfl rfl (fF 5 0 rfl rfl (fF 87 0 rfl rfl ?_))))))))
  obtain rfl:=ae hF
  exact aA (aK [(vL Run.enc s_8.1)] ⟨rfl,trivial⟩)
theorem iI {s1_1:(List Run)} {s2_2:(List Run)} {r:Bool} (hF:bn s1_1 s2_2=some r) :
  FnM Tryz.prog 53 [(vL Run.enc s1_1),(vL Run.enc s2_2)] [] (vB r) []:=by
 refine FnM.of_wH ⟨Tryz.prog,26,[],[]⟩ rfl Tryz.func53 rfl rfl (lb_ rfl) (by kernel_rfl) ?_
 unfold bn at hF
 refine ai (aa (vB false) (ah (ak (ai (aa (vL Run.enc s1_1) (bJ xg rfl wz (aa (vL Run.enc s2_2) (bJ xg rfl wz (aa (vB ((s1_1.length:Int) != (s2_2.length:Int))) (ah ?_))))))))))
 rcases aj hF with⟨hc_3,hF⟩|⟨hc_3,hF⟩
 ·refine aC rfl hc_3 (ai (aa (vB false) (ah ?_)))
  obtain rfl:=ae hF
  exact aA (aK [(vB false)] ⟨rfl,trivial⟩)
 ·refine aB rfl hc_3 (ax (ak (ai (aa (vL Run.enc s1_1) (bJ xg rfl wz (aa (vI 0) (ah ?_)))))))
  obtain ⟨o_12,hj_13,hF⟩:=bind_some hF
  obtain ⟨hn_8,hj_13⟩:=aR hj_13
  refine bL (λ(s_9:Unit)=>[]) (λ(s_9:Unit)=>[]) (λ(k_4:Nat)=>(λ(s_9:Unit)=>[(0,(vL Run.enc s1_1)),(1,(vL Run.enc s2_2)),(12,(vI (s1_1.length:Int))),(13,(vI (k_4:Int)))])) (λk x s=>bG s2_2 k x s) o_12 s1_1 () hj_13 rfl (aG rfl) ?_ ?_
  ·rintro ⟨k_4,l_5,s_9⟩ ⟨hL_11,hD_7⟩
   dsimp only at hL_11 hD_7
   cases l_5 with
   | nil =>
    obtain rfl:=ae hL_11
    refine ai (aa (vB (decide ((k_4:Int)<(s1_1.length:Int)))) (ah ?_))
    refine ak (aB rfl (drop_nil hD_7) (aS ?_))
    exact aV (s_9) rfl rfl (aG rfl)
   | cons x_6 l_5 =>
    obtain ⟨c_,hc_10,hL_11⟩:=bind_some hL_11
    refine ai (aa (vB (decide ((k_4:Int)<(s1_1.length:Int)))) (ah ?_))
    refine ak (aC rfl (aW hD_7) (ax ?_))
    unfold bG at hc_10
    refine ak (aL (ai (aa (vI (k_4:Int)) (aa (vI (k_4:Int)) (ah (ak (bz (aa (vL Run.enc s1_1) (aa (vI (k_4:Int)) (dM lT rfl rfl (bu hD_7) rfl wz (bI mY wR rfl (.d (.agg (Run.enc x_6))) rfl wz (aa (vL Run.enc s2_2) (aa (vI (k_4:Int)) ?_)))))))))))))
    obtain ⟨y_14,hy_15,hc_10⟩:=bind_some hc_10
    refine dM lT rfl rfl hy_15 rfl wz (bI mY wR rfl (.d (.agg (Run.enc y_14))) rfl wz (aI (vB (!((x_6.f_from==y_14.f_from)&&((x_6.f_to==y_14.f_to)&&true)))) wz (by kernel_rfl) (ah ?_)))
    rcases aj hc_10 with⟨hc_16,hc_10⟩|⟨hc_16,hc_10⟩
    ·refine aC rfl hc_16 (ai (aa (vB false) (ah ?_)))
     obtain rfl:=ae hc_10
     obtain rfl:=ae hL_11
     obtain rfl:=ae hF
     exact aA (aK [(vB false)] ⟨rfl,trivial⟩)
    ·refine aB rfl hc_16 (ax (au (dL (aZ hD_7 hn_8) wz rfl (aa (vI ((k_4+1:Nat):Int)) (ah ?_)))))
     obtain rfl:=ae hc_10
     exact aU (k_4+1,l_5,()) ⟨hL_11,aN hD_7⟩ (ls_ _) rfl (aG rfl)
  ·rintro s_9 ho_ sl_ H_ hp_ hq_
   subst ho_
   refine aM _ hp_ hq_ (ai (aa (vB true) (ah ?_)))
   obtain rfl:=ae hF
   exact aA (aK [(vB true)] ⟨rfl,trivial⟩)
theorem uK {l_1:(List Rect)} {m_2:(List Rect)} {r:(List Rect)} (hF:dI l_1 m_2=some r) :
  FnM Tryz.prog 26 [(vL Rect.enc l_1),(vL Rect.enc m_2)] [] (vL Rect.enc r) []:=by
 refine FnM.of_wH ⟨Tryz.prog,88,[],[]⟩ rfl Tryz.func26 rfl rfl (lb_ rfl) (by kernel_rfl) ?_
 unfold dI at hF
 refine ai (aa .nil (ah (ai (aa .nil (ah (ak (ai (aa (vL Rect.enc l_1) (aa (vL Rect.enc m_2) (fI (([l_1,m_2]:List (List Rect)).map (eL Rect.enc)) MN ez137 rfl rfl rfl rfl rfl wz ?_))))))))))
 obtain ⟨r_3,hr_4,hF⟩:=bind_some hF
 refine aD (jh hr_4) rfl hb48 rfl rfl rfl rfl wz (bJ uC rfl wz (aa (vI 0) (ah (iV (λn_11 => ?_)))))
 obtain ⟨o_16,hj_17,hF⟩:=bind_some hF
 obtain ⟨hn_9,hj_17⟩:=aR hj_17
 refine fK (σ:=(List Int)) (N:=Nm) (λp=>(λ(s_10:List Int) (n_13:Nm)=>([(0,(vL Rect.enc l_1)),(1,(vL Rect.enc m_2)),(5,(gV n_13 1 s_10))]:SL_)) p.1 p.2) (λp=>(λ(s_10:List Int) (n_13:Nm)=>([(n_13,gB 1 eI s_10)]:Hp)) p.1 p.2) (λ(k_5:Nat)=>(λp=>(λ(s_10:List Int) (n_13:Nm)=>([(0,(vL Rect.enc l_1)),(1,(vL Rect.enc m_2)),(5,(gV n_13 1 s_10)),(19,(vL Rect.enc r_3)),(20,(vI (r_3.length:Int))),(21,(vI (k_5:Int)))]:SL_)) p.1 p.2)) (λk x s=>fZ k x s) o_16 r_3 (([]:List Int),n_11) hj_17 rfl (aG rfl) ?_ ?_
 ·rintro ⟨k_5,l_6,s_10,n_13⟩ ⟨hL_15,hD_8⟩
  dsimp only at hL_15 hD_8
  cases l_6 with
  | nil =>
   obtain rfl:=ae hL_15
   refine ai (aa (vB (decide ((k_5:Int)<(r_3.length:Int)))) (ah ?_))
   refine ak (aB rfl (drop_nil hD_8) (aS ?_))
   exact aV (s_10,n_13) rfl rfl (aG rfl)
  | cons x_7 l_6 =>
   obtain ⟨c_,hc_14,hL_15⟩:=bind_some hL_15
   refine ai (aa (vB (decide ((k_5:Int)<(r_3.length:Int)))) (ah ?_))
   refine ak (aC rfl (aW hD_8) (ax ?_))
   unfold fZ at hc_14
   refine ak (aL (ai (dM tO rfl rfl (bu hD_8) rfl wz (bI eU jN rfl (.d (.agg (Rect.enc x_7))) rfl wz (bf 0 (.inl rfl) z27 rfl wz (λn_18=>cz 0 il ft 1 eU rfl rfl (Rect.v x_7) rfl wz (ah (au (aa (gV n_13 1 s_10) (ay gu rfl 1 rfl wz (av 0 1 il ft sz3 ag3 rfl rfl (vI x_7.Y) rfl wz (ay gu rfl 1 rfl wz (av 0 1 il ft sz3 ag3 rfl rfl (vI x_7.Y) rfl wz (ay lQ rfl 3 rfl wz (av 0 1 il ft sz3 ag3 rfl rfl (vI x_7.H) rfl wz (aa (vI (w64 (x_7.Y+x_7.H))) (fI (([x_7.Y,(w64 (x_7.Y+x_7.H))]:List Int).map eI) o9 D8 rfl rfl rfl rfl rfl wz ?_)))))))))))))))))
   obtain ⟨a_19,hz_20,hc_14⟩:=bind_some hc_14
   refine kH 0 il ft (i:=0) Pk Pk sz3 z3 rfl (by decide) by3 (by decide) (λ_=>rfl) rfl rfl rfl hz_20 wz (λn_21=>aa (gV n_21 1 a_19) (ah (au (dL (aZ hD_8 hn_9) wz rfl (aa (vI ((k_5+1:Nat):Int)) (ah ?_))))))
   obtain rfl:=ae hc_14
   exact aU (k_5+1,l_6,a_19,n_21) ⟨hL_15,aN hD_8⟩ (ls_ _) rfl (aG rfl)
 ·rintro ⟨s_10,n_13⟩ ho_ sl_ H_ hp_ hq_
  subst ho_
  refine aM _ hp_ hq_ (ai (aa (gV n_13 1 s_10) ?_))
  obtain ⟨r_22,hr_23,hF⟩:=bind_some hF
  obtain ⟨_,hs_24,hF⟩:=bind_some hF
  replace hs_24:=nM hs_24
  refine nP 0 [] 0 0 il ft (mZ hr_23) rfl hb49 rfl rfl rfl (by kernel_rfl) rfl (.inl rfl) rfl (by kernel_rfl) (by kernel_rfl) (by kernel_rfl) (by kernel_rfl) rfl (by decide) (by kernel_rfl) pz (yT hs_24) wz ([(n_13,gB 1 eI r_22)]:Hp) (by kernel_rfl) (gP (v':=(gV n_13 1 r_22)) 36 rfl (iq hs_24.symm) (gP (v':=(gV n_13 1 r_22)) 5 rfl (iq hs_24.symm) (ah (ai (aa (gV n_13 1 r_22) ?_)))))
  obtain ⟨r_25,hr_26,hF⟩:=bind_some hF
  refine nP 0 [] 0 0 il ft (lu hr_26) rfl hb50 rfl rfl rfl (by kernel_rfl) rfl (.inl rfl) rfl (by kernel_rfl) (by kernel_rfl) (by kernel_rfl) (by kernel_rfl) rfl (by decide) (by kernel_rfl) Ab (λ_=>rfl) wz ([(n_13,none)]:Hp) (by kernel_rfl) (aa (vL eI r_25) (ah (ai (aa .nil (ah (ai (aa .nil (ah (ai (aa (vI 0) (ah (ak (ai (aa (vL eI r_25) (bJ vF rfl wz (aa (vI 0) (ah (Dm Run.enc 9 rfl (iV (λn_33 => ?_))))))))))))))))))))
  obtain ⟨o_38,hj_39,hF⟩:=bind_some hF
  obtain ⟨hn_31,hj_39⟩:=aR hj_39
  refine fK (σ:=(List Rect)×(List Run)×Int) (N:=Nm) (λp=>(λ(s_32:(List Rect)×(List Run)×Int) (n_35:Nm)=>([(8,(gV n_35 4 s_32.1))]:SL_)) p.1 p.2) (λp=>(λ(s_32:(List Rect)×(List Run)×Int) (n_35:Nm)=>([(n_13,none),(n_35,gB 4 Rect.enc s_32.1)]:Hp)) p.1 p.2) (λ(k_27:Nat)=>(λp=>(λ(s_32:(List Rect)×(List Run)×Int) (n_35:Nm)=>([(0,(vL Rect.enc l_1)),(1,(vL Rect.enc m_2)),(5,(vL eI r_25)),(8,(gV n_35 4 s_32.1)),(9,(vL Run.enc s_32.2.1)),(10,(vI s_32.2.2)),(40,(vL eI r_25)),(41,(vI (r_25.length:Int))),(42,(vI (k_27:Int)))]:SL_)) p.1 p.2)) (λk x s=>dC r_25 l_1 m_2 k x s) o_38 r_25 ((([]:List Rect),([]:List Run),0),n_33) hj_39 rfl (aG rfl) ?_ ?_
  ·rintro ⟨k_27,l_28,s_32,n_35⟩ ⟨hL_37,hD_30⟩
   dsimp only at hL_37 hD_30
   cases l_28 with
   | nil =>
    obtain rfl:=ae hL_37
    refine ai (aa (vB (decide ((k_27:Int)<(r_25.length:Int)))) (ah ?_))
    refine ak (aB rfl (drop_nil hD_30) (aS ?_))
    exact aV (s_32,n_35) rfl rfl (aG rfl)
   | cons x_29 l_28 =>
    obtain ⟨c_,hc_36,hL_37⟩:=bind_some hL_37
    refine ai (aa (vB (decide ((k_27:Int)<(r_25.length:Int)))) (ah ?_))
    refine ak (aC rfl (aW hD_30) (ax ?_))
    unfold dC at hc_36
    refine ak (aL (ai (aa (vI (k_27:Int)) (dM o9 rfl rfl (bu hD_30) rfl wz (bI sz3 ag3 rfl (vI x_29) rfl wz (aa (vI (k_27:Int)) (aa (vI x_29) (ah (ai (aa .nil (ah (ak (ai (aa (vI (k_27:Int)) (aa (vI (w64 ((k_27:Int)+1))) (aa (vL eI r_25) (bJ vF rfl wz (aa (vB (decide ((w64 ((k_27:Int)+1))<(r_25.length:Int)))) (ah (Dm Run.enc 13 rfl ?_))))))))))))))))))))
    obtain ⟨v_42,h_43,hc_36⟩:=bind_some hc_36
    refine aP [(0,(vL Rect.enc l_1)),(1,(vL Rect.enc m_2)),(5,(vL eI r_25)),(8,(gV n_35 4 s_32.1)),(9,(vL Run.enc s_32.2.1)),(10,(vI s_32.2.2)),(12,(vI x_29)),(13,(vL Run.enc v_42)),(40,(vL eI r_25)),(41,(vI (r_25.length:Int))),(42,(vI (k_27:Int)))] [(n_13,none),(n_35,gB 4 Rect.enc s_32.1)] ?_ ?_
    ·rcases aj h_43 with⟨hc_44,h_43⟩|⟨hc_44,h_43⟩
     ·refine aC rfl hc_44 (au (aa (vL Rect.enc l_1) (aa (vI x_29) ?_)))
      obtain ⟨r_45,hr_46,h_43⟩:=bind_some h_43
      refine aD (oU hr_46) rfl hb52 rfl rfl rfl rfl wz (aa (vL Rect.enc m_2) (aa (vI x_29) ?_))
      obtain ⟨r_47,hr_48,h_43⟩:=bind_some h_43
      refine aD (oU hr_48) rfl hb52 rfl rfl rfl rfl wz ?_
      obtain ⟨r_49,hr_50,h_43⟩:=bind_some h_43
      refine aD (xP hr_50) rfl hb51 rfl rfl rfl rfl wz (aa (vL Run.enc r_49) (ah ?_))
      obtain rfl:=ae h_43
      exact cu
     ·refine aB rfl hc_44 (ax ?_)
      obtain rfl:=ae h_43
      exact cu
    ·rintro ⟨⟩ _ sl_ H_ hp_ hq_
     refine aM _ hp_ hq_ (ak (ai (aa (vL Run.enc s_32.2.1) (aa (vL Run.enc v_42) ?_))))
     obtain ⟨r_51,hr_52,hc_36⟩:=bind_some hc_36
     refine aD (iI hr_52) rfl hb53 rfl rfl rfl rfl wz (ah ?_)
     rcases aj hc_36 with⟨hc_53,hc_36⟩|⟨hc_53,hc_36⟩
     ·refine aC rfl hc_53 (aS (au (dL (aZ hD_30 hn_31) wz rfl (aa (vI ((k_27+1:Nat):Int)) (ah ?_)))))
      obtain rfl:=ae hc_36
      exact aU (k_27+1,l_28,(s_32.1,s_32.2.1,s_32.2.2),n_35) ⟨hL_37,aN hD_30⟩ (ls_ _) rfl (aG rfl)
     ·refine aB rfl hc_53 (ax (ak (ai (aa (vL Run.enc s_32.2.1) (bJ xg rfl wz (aa (vI 0) (ah ?_)))))))
      obtain ⟨o_64,hj_65,hc_36⟩:=bind_some hc_36
      obtain ⟨hn_58,hj_65⟩:=aR hj_65
      refine fK (σ:=(List Rect)) (N:=Nm) (λp=>(λ(s_59:List Rect) (n_61:Nm)=>([(0,(vL Rect.enc l_1)),(1,(vL Rect.enc m_2)),(5,(vL eI r_25)),(8,(gV n_61 4 s_59)),(12,(vI x_29)),(13,(vL Run.enc v_42)),(40,(vL eI r_25)),(41,(vI (r_25.length:Int))),(42,(vI (k_27:Int)))]:SL_)) p.1 p.2) (λp=>(λ(s_59:List Rect) (n_61:Nm)=>([(n_13,none),(n_61,gB 4 Rect.enc s_59)]:Hp)) p.1 p.2) (λ(k_54:Nat)=>(λp=>(λ(s_59:List Rect) (n_61:Nm)=>([(0,(vL Rect.enc l_1)),(1,(vL Rect.enc m_2)),(5,(vL eI r_25)),(8,(gV n_61 4 s_59)),(10,(vI s_32.2.2)),(12,(vI x_29)),(13,(vL Run.enc v_42)),(40,(vL eI r_25)),(41,(vI (r_25.length:Int))),(42,(vI (k_27:Int))),(62,(vL Run.enc s_32.2.1)),(63,(vI (s_32.2.1.length:Int))),(64,(vI (k_54:Int)))]:SL_)) p.1 p.2)) (λk x s=>dU s_32 x_29 k x s) o_64 s_32.2.1 (s_32.1,n_35) hj_65 rfl (aG rfl) ?_ ?_
      ·rintro ⟨k_54,l_55,s_59,n_61⟩ ⟨hL_63,hD_57⟩
       dsimp only at hL_63 hD_57
       cases l_55 with
       | nil =>
        obtain rfl:=ae hL_63
        refine ai (aa (vB (decide ((k_54:Int)<(s_32.2.1.length:Int)))) (ah ?_))
        refine ak (aB rfl (drop_nil hD_57) (aS ?_))
        exact aV (s_59,n_61) rfl rfl (aG rfl)
       | cons x_56 l_55 =>
        obtain ⟨c_,hc_62,hL_63⟩:=bind_some hL_63
        refine ai (aa (vB (decide ((k_54:Int)<(s_32.2.1.length:Int)))) (ah ?_))
        refine ak (aC rfl (aW hD_57) (ax ?_))
        unfold dU at hc_62
        refine ak (aL (ai (dM lT rfl rfl (bu hD_57) rfl wz (bI mY wR rfl (.d (.agg (Run.enc x_56))) rfl wz (bf 0 (.inl rfl) z116 rfl wz (λn_66=>cz 0 il ft 2 mY rfl rfl [(vI x_56.f_from),(vI x_56.f_to)] rfl wz (ah (au (aa (gV n_61 4 s_59) (ay j6 rfl 0 rfl wz (av 0 2 il ft sz3 ag3 rfl rfl (vI x_56.f_from) rfl wz (aa (vI s_32.2.2) (ay qj rfl 1 rfl wz (av 0 2 il ft sz3 ag3 rfl rfl (vI x_56.f_to) rfl wz (ay j6 rfl 0 rfl wz (av 0 2 il ft sz3 ag3 rfl rfl (vI x_56.f_from) rfl wz (aa (vI (w64 (x_56.f_to-x_56.f_from))) (aa (vI x_29) (aa (vI s_32.2.2) (aa (vI (w64 (x_29-s_32.2.2))) (aI (.d (.agg (Rect.enc (⟨x_56.f_from,s_32.2.2,(w64 (x_56.f_to-x_56.f_from)),(w64 (x_29-s_32.2.2))⟩:Rect)))) wz (by kernel_rfl) (fI (([(⟨x_56.f_from,s_32.2.2,(w64 (x_56.f_to-x_56.f_from)),(w64 (x_29-s_32.2.2))⟩:Rect)]:List Rect).map Rect.enc) tO FI rfl rfl rfl rfl rfl wz ?_))))))))))))))))))))))
        obtain ⟨a_67,hz_68,hc_62⟩:=bind_some hc_62
        refine kH 0 il ft (i:=1) Cb Cb eU z27 rfl (by decide) M8 (by decide) (λ_=>rfl) rfl rfl rfl hz_68 wz (λn_69=>aa (gV n_69 4 a_67) (ah (au (dL (aZ hD_57 hn_58) wz rfl (aa (vI ((k_54+1:Nat):Int)) (ah ?_))))))
        obtain rfl:=ae hc_62
        exact aU (k_54+1,l_55,a_67,n_69) ⟨hL_63,aN hD_57⟩ (ls_ _) rfl (aG rfl)
      ·rintro ⟨s_59,n_61⟩ ho_ sl_ H_ hp_ hq_
       subst ho_
       refine aM _ hp_ hq_ (au (aa (vL Run.enc v_42) (aa (vI x_29) (aa (vL Run.enc v_42) (aa (vI x_29) (ah (au (dL (aZ hD_30 hn_31) wz rfl (aa (vI ((k_27+1:Nat):Int)) (ah ?_))))))))))
       obtain rfl:=ae hc_36
       exact aU (k_27+1,l_28,(s_59,v_42,x_29),n_61) ⟨hL_37,aN hD_30⟩ (ls_ _) rfl (aG rfl)
  ·rintro ⟨s_32,n_35⟩ ho_ sl_ H_ hp_ hq_
   subst ho_
   refine aM _ hp_ hq_ (ai (aa (gV n_35 4 s_32.1) (aa (gV n_35 4 s_32.1) (ah (jc 1 rfl (fF 4 1 rfl rfl (fF 8 1 rfl rfl (fF 87 1 rfl rfl ?_))))))))
   obtain rfl:=ae hF
   exact aA (aK [(vL Rect.enc s_32.1)] ⟨rfl,trivial⟩)
theorem jB {l_1:(List Rect)} {r:(List Rect)} (hF:fq l_1=some r) :
  FnM Tryz.prog 8 [(dV (aJ 0) 4 l_1)] (([]:List Box)++gI 4 Rect.enc l_1) (.tup []) (([]:List Box).map some++gT l_1 (gB 4 Rect.enc r)):=by
 refine FnM.of_wHv ⟨Tryz.prog,14,[],[]⟩ rfl Tryz.func8 rfl rfl (lb_ rfl) (by kernel_rfl) ?_
 unfold fq at hF
 refine ai (bf 0 (.inl rfl) z27 rfl wz (λn_2=>ah (ai (aa (dV (aJ 0) 4 l_1) (Bv uC rfl wz (aa (vI 0) (ah ?_)))))))
 obtain ⟨o_11,hj_12,hF⟩:=bind_some hF
 obtain ⟨hn_7,hj_12⟩:=aR hj_12
 refine bL (λ(s_8:List Rect)=>[]) (λ(s_8:List Rect)=>[((aJ 0),gB 4 Rect.enc s_8),(n_2,some (.cells 4 [(vI 0),(vI 0),(vI 0),(vI 0)]))]) (λ(k_3:Nat)=>(λ(s_8:List Rect)=>[(0,(dV (aJ 0) 4 s_8)),(2,(.ref n_2 0 0)),(5,(vI (l_1.length:Int))),(6,(vI (k_3:Int)))])) (λk x s=>jy k x s) o_11 (List.range ((l_1.length:Int)).toNat) l_1 hj_12 rfl (aG rfl) ?_ ?_
 ·rintro ⟨k_3,l_4,s_8⟩ ⟨hL_10,hD_6⟩
  dsimp only at hL_10 hD_6
  cases l_4 with
  | nil =>
   obtain rfl:=ae hL_10
   refine ai (aa (vB (decide ((k_3:Int)<(l_1.length:Int)))) (ah ?_))
   refine ak (aB rfl (rP hD_6) (aS ?_))
   exact aV (s_8) rfl rfl (aG rfl)
  | cons x_5 l_4 =>
   obtain ⟨c_,hc_9,hL_10⟩:=bind_some hL_10
   refine ai (aa (vB (decide ((k_3:Int)<(l_1.length:Int)))) (ah ?_))
   refine ak (aC rfl (pM hD_6) (ax ?_))
   unfold jy at hc_9
   refine ak (aL (ai (aa (vI (k_3:Int)) (aa (vI (k_3:Int)) (ah (au (aa (dV (aJ 0) 4 s_8) (aa (vI (k_3:Int)) (av 0 1 il ft eU jN rfl rfl (.d (.agg (Rect.enc (⟨0,0,0,0⟩:Rect)))) rfl wz ?_)))))))))
   obtain ⟨_,hi_13,hc_9⟩:=bind_some hc_9
   refine tH tO rfl rfl (qC hi_13) (mE hi_13) wz ?_
   obtain ⟨e_14,hy_15,hc_9⟩:=bind_some hc_9
   refine zm 0 il ft 0 eU rfl rfl hy_15 (⟨0,0,0,0⟩:Rect) rfl wz (gP (v':=(dV (aJ 0) 4 (s_8.set (0+((k_3:Int)).toNat) (⟨0,0,0,0⟩:Rect)))) 0 rfl (jX (by simp)) (gP (v':=(dV (aJ 0) 4 (s_8.set (0+((k_3:Int)).toNat) (⟨0,0,0,0⟩:Rect)))) 9 rfl (jX (by simp)) (ah (au (dL (rT hD_6 hn_7) wz rfl (aa (vI ((k_3+1:Nat):Int)) (ah ?_)))))))
   obtain rfl:=ae hc_9
   exact aU (k_3+1,l_4,(s_8.set (0+((k_3:Int)).toNat) (⟨0,0,0,0⟩:Rect))) ⟨hL_10,aN hD_6⟩ (ls_ _) rfl (aG rfl)
 ·rintro s_8 ho_ sl_ H_ hp_ hq_
  subst ho_
  show uw _ _ _ _ _ _ _ _
  obtain rfl:=ae hF
  exact Al (H0:=([((aJ 0),gB 4 Rect.enc s_8),(n_2,some (.cells 4 [(vI 0),(vI 0),(vI 0),(vI 0)]))]:Hp)) (sl':=envS []) hq_ (FK (bs:=([]:List Box)) (os:=([]:List Box)) (xs:=l_1) (o:=gB 4 Rect.enc s_8) (.inl rfl) [] trivial rfl rfl rfl rfl rfl (by kernel_rfl) pz rfl)
theorem oZ {l_1:(List Rect)} {m_2:(List Rect)} {r:(List Rect)} (hF:dI l_1 m_2=some r) :
  FnM Tryz.prog 26 [(vL Rect.enc l_1),(vL Rect.enc m_2)] [] (gV (aJ 0) 4 r) (([]:List Box).map some++gO 4 Rect.enc r):=by
 refine FnM.of_wH ⟨Tryz.prog,88,[],[]⟩ rfl Tryz.func26 rfl rfl (lb_ rfl) (by kernel_rfl) ?_
 unfold dI at hF
 refine ai (aa .nil (ah (ai (aa .nil (ah (ak (ai (aa (vL Rect.enc l_1) (aa (vL Rect.enc m_2) (fI (([l_1,m_2]:List (List Rect)).map (eL Rect.enc)) MN ez137 rfl rfl rfl rfl rfl wz ?_))))))))))
 obtain ⟨r_3,hr_4,hF⟩:=bind_some hF
 refine aD (jh hr_4) rfl hb48 rfl rfl rfl rfl wz (bJ uC rfl wz (aa (vI 0) (ah (iV (λn_11 => ?_)))))
 obtain ⟨o_16,hj_17,hF⟩:=bind_some hF
 obtain ⟨hn_9,hj_17⟩:=aR hj_17
 refine fK (σ:=(List Int)) (N:=Nm) (λp=>(λ(s_10:List Int) (n_13:Nm)=>([(0,(vL Rect.enc l_1)),(1,(vL Rect.enc m_2)),(5,(gV n_13 1 s_10))]:SL_)) p.1 p.2) (λp=>(λ(s_10:List Int) (n_13:Nm)=>([(n_13,gB 1 eI s_10)]:Hp)) p.1 p.2) (λ(k_5:Nat)=>(λp=>(λ(s_10:List Int) (n_13:Nm)=>([(0,(vL Rect.enc l_1)),(1,(vL Rect.enc m_2)),(5,(gV n_13 1 s_10)),(19,(vL Rect.enc r_3)),(20,(vI (r_3.length:Int))),(21,(vI (k_5:Int)))]:SL_)) p.1 p.2)) (λk x s=>fZ k x s) o_16 r_3 (([]:List Int),n_11) hj_17 rfl (aG rfl) ?_ ?_
 ·rintro ⟨k_5,l_6,s_10,n_13⟩ ⟨hL_15,hD_8⟩
  dsimp only at hL_15 hD_8
  cases l_6 with
  | nil =>
   obtain rfl:=ae hL_15
   refine ai (aa (vB (decide ((k_5:Int)<(r_3.length:Int)))) (ah ?_))
   refine ak (aB rfl (drop_nil hD_8) (aS ?_))
   exact aV (s_10,n_13) rfl rfl (aG rfl)
  | cons x_7 l_6 =>
   obtain ⟨c_,hc_14,hL_15⟩:=bind_some hL_15
   refine ai (aa (vB (decide ((k_5:Int)<(r_3.length:Int)))) (ah ?_))
   refine ak (aC rfl (aW hD_8) (ax ?_))
   unfold fZ at hc_14
   refine ak (aL (ai (dM tO rfl rfl (bu hD_8) rfl wz (bI eU jN rfl (.d (.agg (Rect.enc x_7))) rfl wz (bf 0 (.inl rfl) z27 rfl wz (λn_18=>cz 0 il ft 1 eU rfl rfl (Rect.v x_7) rfl wz (ah (au (aa (gV n_13 1 s_10) (ay gu rfl 1 rfl wz (av 0 1 il ft sz3 ag3 rfl rfl (vI x_7.Y) rfl wz (ay gu rfl 1 rfl wz (av 0 1 il ft sz3 ag3 rfl rfl (vI x_7.Y) rfl wz (ay lQ rfl 3 rfl wz (av 0 1 il ft sz3 ag3 rfl rfl (vI x_7.H) rfl wz (aa (vI (w64 (x_7.Y+x_7.H))) (fI (([x_7.Y,(w64 (x_7.Y+x_7.H))]:List Int).map eI) o9 D8 rfl rfl rfl rfl rfl wz ?_)))))))))))))))))
   obtain ⟨a_19,hz_20,hc_14⟩:=bind_some hc_14
   refine kH 0 il ft (i:=0) Pk Pk sz3 z3 rfl (by decide) by3 (by decide) (λ_=>rfl) rfl rfl rfl hz_20 wz (λn_21=>aa (gV n_21 1 a_19) (ah (au (dL (aZ hD_8 hn_9) wz rfl (aa (vI ((k_5+1:Nat):Int)) (ah ?_))))))
   obtain rfl:=ae hc_14
   exact aU (k_5+1,l_6,a_19,n_21) ⟨hL_15,aN hD_8⟩ (ls_ _) rfl (aG rfl)
 ·rintro ⟨s_10,n_13⟩ ho_ sl_ H_ hp_ hq_
  subst ho_
  refine aM _ hp_ hq_ (ai (aa (gV n_13 1 s_10) ?_))
  obtain ⟨r_22,hr_23,hF⟩:=bind_some hF
  obtain ⟨_,hs_24,hF⟩:=bind_some hF
  replace hs_24:=nM hs_24
  refine nP 0 [] 0 0 il ft (mZ hr_23) rfl hb49 rfl rfl rfl (by kernel_rfl) rfl (.inl rfl) rfl (by kernel_rfl) (by kernel_rfl) (by kernel_rfl) (by kernel_rfl) rfl (by decide) (by kernel_rfl) pz (yT hs_24) wz ([(n_13,gB 1 eI r_22)]:Hp) (by kernel_rfl) (gP (v':=(gV n_13 1 r_22)) 36 rfl (iq hs_24.symm) (gP (v':=(gV n_13 1 r_22)) 5 rfl (iq hs_24.symm) (ah (ai (aa (gV n_13 1 r_22) ?_)))))
  obtain ⟨r_25,hr_26,hF⟩:=bind_some hF
  refine nP 0 [] 0 0 il ft (lu hr_26) rfl hb50 rfl rfl rfl (by kernel_rfl) rfl (.inl rfl) rfl (by kernel_rfl) (by kernel_rfl) (by kernel_rfl) (by kernel_rfl) rfl (by decide) (by kernel_rfl) Ab (λ_=>rfl) wz ([(n_13,none)]:Hp) (by kernel_rfl) (aa (vL eI r_25) (ah (ai (aa .nil (ah (ai (aa .nil (ah (ai (aa (vI 0) (ah (ak (ai (aa (vL eI r_25) (bJ vF rfl wz (aa (vI 0) (ah (Dm Run.enc 9 rfl (iV (λn_33 => ?_))))))))))))))))))))
  obtain ⟨o_38,hj_39,hF⟩:=bind_some hF
  obtain ⟨hn_31,hj_39⟩:=aR hj_39
  refine fK (σ:=(List Rect)×(List Run)×Int) (N:=Nm) (λp=>(λ(s_32:(List Rect)×(List Run)×Int) (n_35:Nm)=>([(8,(gV n_35 4 s_32.1))]:SL_)) p.1 p.2) (λp=>(λ(s_32:(List Rect)×(List Run)×Int) (n_35:Nm)=>([(n_13,none),(n_35,gB 4 Rect.enc s_32.1)]:Hp)) p.1 p.2) (λ(k_27:Nat)=>(λp=>(λ(s_32:(List Rect)×(List Run)×Int) (n_35:Nm)=>([(0,(vL Rect.enc l_1)),(1,(vL Rect.enc m_2)),(5,(vL eI r_25)),(8,(gV n_35 4 s_32.1)),(9,(vL Run.enc s_32.2.1)),(10,(vI s_32.2.2)),(40,(vL eI r_25)),(41,(vI (r_25.length:Int))),(42,(vI (k_27:Int)))]:SL_)) p.1 p.2)) (λk x s=>dC r_25 l_1 m_2 k x s) o_38 r_25 ((([]:List Rect),([]:List Run),0),n_33) hj_39 rfl (aG rfl) ?_ ?_
  ·rintro ⟨k_27,l_28,s_32,n_35⟩ ⟨hL_37,hD_30⟩
   dsimp only at hL_37 hD_30
   cases l_28 with
   | nil =>
    obtain rfl:=ae hL_37
    refine ai (aa (vB (decide ((k_27:Int)<(r_25.length:Int)))) (ah ?_))
    refine ak (aB rfl (drop_nil hD_30) (aS ?_))
    exact aV (s_32,n_35) rfl rfl (aG rfl)
   | cons x_29 l_28 =>
    obtain ⟨c_,hc_36,hL_37⟩:=bind_some hL_37
    refine ai (aa (vB (decide ((k_27:Int)<(r_25.length:Int)))) (ah ?_))
    refine ak (aC rfl (aW hD_30) (ax ?_))
    unfold dC at hc_36
    refine ak (aL (ai (aa (vI (k_27:Int)) (dM o9 rfl rfl (bu hD_30) rfl wz (bI sz3 ag3 rfl (vI x_29) rfl wz (aa (vI (k_27:Int)) (aa (vI x_29) (ah (ai (aa .nil (ah (ak (ai (aa (vI (k_27:Int)) (aa (vI (w64 ((k_27:Int)+1))) (aa (vL eI r_25) (bJ vF rfl wz (aa (vB (decide ((w64 ((k_27:Int)+1))<(r_25.length:Int)))) (ah (Dm Run.enc 13 rfl ?_))))))))))))))))))))
    obtain ⟨v_42,h_43,hc_36⟩:=bind_some hc_36
    refine aP [(0,(vL Rect.enc l_1)),(1,(vL Rect.enc m_2)),(5,(vL eI r_25)),(8,(gV n_35 4 s_32.1)),(9,(vL Run.enc s_32.2.1)),(10,(vI s_32.2.2)),(12,(vI x_29)),(13,(vL Run.enc v_42)),(40,(vL eI r_25)),(41,(vI (r_25.length:Int))),(42,(vI (k_27:Int)))] [(n_13,none),(n_35,gB 4 Rect.enc s_32.1)] ?_ ?_
    ·rcases aj h_43 with⟨hc_44,h_43⟩|⟨hc_44,h_43⟩
     ·refine aC rfl hc_44 (au (aa (vL Rect.enc l_1) (aa (vI x_29) ?_)))
      obtain ⟨r_45,hr_46,h_43⟩:=bind_some h_43
      refine aD (oU hr_46) rfl hb52 rfl rfl rfl rfl wz (aa (vL Rect.enc m_2) (aa (vI x_29) ?_))
      obtain ⟨r_47,hr_48,h_43⟩:=bind_some h_43
      refine aD (oU hr_48) rfl hb52 rfl rfl rfl rfl wz ?_
      obtain ⟨r_49,hr_50,h_43⟩:=bind_some h_43
      refine aD (xP hr_50) rfl hb51 rfl rfl rfl rfl wz (aa (vL Run.enc r_49) (ah ?_))
      obtain rfl:=ae h_43
      exact cu
     ·refine aB rfl hc_44 (ax ?_)
      obtain rfl:=ae h_43
      exact cu
    ·rintro ⟨⟩ _ sl_ H_ hp_ hq_
     refine aM _ hp_ hq_ (ak (ai (aa (vL Run.enc s_32.2.1) (aa (vL Run.enc v_42) ?_))))
     obtain ⟨r_51,hr_52,hc_36⟩:=bind_some hc_36
     refine aD (iI hr_52) rfl hb53 rfl rfl rfl rfl wz (ah ?_)
     rcases aj hc_36 with⟨hc_53,hc_36⟩|⟨hc_53,hc_36⟩
     ·refine aC rfl hc_53 (aS (au (dL (aZ hD_30 hn_31) wz rfl (aa (vI ((k_27+1:Nat):Int)) (ah ?_)))))
      obtain rfl:=ae hc_36
      exact aU (k_27+1,l_28,(s_32.1,s_32.2.1,s_32.2.2),n_35) ⟨hL_37,aN hD_30⟩ (ls_ _) rfl (aG rfl)
     ·refine aB rfl hc_53 (ax (ak (ai (aa (vL Run.enc s_32.2.1) (bJ xg rfl wz (aa (vI 0) (ah ?_)))))))
      obtain ⟨o_64,hj_65,hc_36⟩:=bind_some hc_36
      obtain ⟨hn_58,hj_65⟩:=aR hj_65
      refine fK (σ:=(List Rect)) (N:=Nm) (λp=>(λ(s_59:List Rect) (n_61:Nm)=>([(0,(vL Rect.enc l_1)),(1,(vL Rect.enc m_2)),(5,(vL eI r_25)),(8,(gV n_61 4 s_59)),(12,(vI x_29)),(13,(vL Run.enc v_42)),(40,(vL eI r_25)),(41,(vI (r_25.length:Int))),(42,(vI (k_27:Int)))]:SL_)) p.1 p.2) (λp=>(λ(s_59:List Rect) (n_61:Nm)=>([(n_13,none),(n_61,gB 4 Rect.enc s_59)]:Hp)) p.1 p.2) (λ(k_54:Nat)=>(λp=>(λ(s_59:List Rect) (n_61:Nm)=>([(0,(vL Rect.enc l_1)),(1,(vL Rect.enc m_2)),(5,(vL eI r_25)),(8,(gV n_61 4 s_59)),(10,(vI s_32.2.2)),(12,(vI x_29)),(13,(vL Run.enc v_42)),(40,(vL eI r_25)),(41,(vI (r_25.length:Int))),(42,(vI (k_27:Int))),(62,(vL Run.enc s_32.2.1)),(63,(vI (s_32.2.1.length:Int))),(64,(vI (k_54:Int)))]:SL_)) p.1 p.2)) (λk x s=>dU s_32 x_29 k x s) o_64 s_32.2.1 (s_32.1,n_35) hj_65 rfl (aG rfl) ?_ ?_
      ·rintro ⟨k_54,l_55,s_59,n_61⟩ ⟨hL_63,hD_57⟩
       dsimp only at hL_63 hD_57
       cases l_55 with
       | nil =>
        obtain rfl:=ae hL_63
        refine ai (aa (vB (decide ((k_54:Int)<(s_32.2.1.length:Int)))) (ah ?_))
        refine ak (aB rfl (drop_nil hD_57) (aS ?_))
        exact aV (s_59,n_61) rfl rfl (aG rfl)
       | cons x_56 l_55 =>
        obtain ⟨c_,hc_62,hL_63⟩:=bind_some hL_63
        refine ai (aa (vB (decide ((k_54:Int)<(s_32.2.1.length:Int)))) (ah ?_))
        refine ak (aC rfl (aW hD_57) (ax ?_))
        unfold dU at hc_62
        refine ak (aL (ai (dM lT rfl rfl (bu hD_57) rfl wz (bI mY wR rfl (.d (.agg (Run.enc x_56))) rfl wz (bf 0 (.inl rfl) z116 rfl wz (λn_66=>cz 0 il ft 2 mY rfl rfl [(vI x_56.f_from),(vI x_56.f_to)] rfl wz (ah (au (aa (gV n_61 4 s_59) (ay j6 rfl 0 rfl wz (av 0 2 il ft sz3 ag3 rfl rfl (vI x_56.f_from) rfl wz (aa (vI s_32.2.2) (ay qj rfl 1 rfl wz (av 0 2 il ft sz3 ag3 rfl rfl (vI x_56.f_to) rfl wz (ay j6 rfl 0 rfl wz (av 0 2 il ft sz3 ag3 rfl rfl (vI x_56.f_from) rfl wz (aa (vI (w64 (x_56.f_to-x_56.f_from))) (aa (vI x_29) (aa (vI s_32.2.2) (aa (vI (w64 (x_29-s_32.2.2))) (aI (.d (.agg (Rect.enc (⟨x_56.f_from,s_32.2.2,(w64 (x_56.f_to-x_56.f_from)),(w64 (x_29-s_32.2.2))⟩:Rect)))) wz (by kernel_rfl) (fI (([(⟨x_56.f_from,s_32.2.2,(w64 (x_56.f_to-x_56.f_from)),(w64 (x_29-s_32.2.2))⟩:Rect)]:List Rect).map Rect.enc) tO FI rfl rfl rfl rfl rfl wz ?_))))))))))))))))))))))
        obtain ⟨a_67,hz_68,hc_62⟩:=bind_some hc_62
        refine kH 0 il ft (i:=1) Cb Cb eU z27 rfl (by decide) M8 (by decide) (λ_=>rfl) rfl rfl rfl hz_68 wz (λn_69=>aa (gV n_69 4 a_67) (ah (au (dL (aZ hD_57 hn_58) wz rfl (aa (vI ((k_54+1:Nat):Int)) (ah ?_))))))
        obtain rfl:=ae hc_62
        exact aU (k_54+1,l_55,a_67,n_69) ⟨hL_63,aN hD_57⟩ (ls_ _) rfl (aG rfl)
      ·rintro ⟨s_59,n_61⟩ ho_ sl_ H_ hp_ hq_
       subst ho_
       refine aM _ hp_ hq_ (au (aa (vL Run.enc v_42) (aa (vI x_29) (aa (vL Run.enc v_42) (aa (vI x_29) (ah (au (dL (aZ hD_30 hn_31) wz rfl (aa (vI ((k_27+1:Nat):Int)) (ah ?_))))))))))
       obtain rfl:=ae hc_36
       exact aU (k_27+1,l_28,(s_59,v_42,x_29),n_61) ⟨hL_37,aN hD_30⟩ (ls_ _) rfl (aG rfl)
  ·rintro ⟨s_32,n_35⟩ ho_ sl_ H_ hp_ hq_
   subst ho_
   refine aM _ hp_ hq_ (ai (aa (gV n_35 4 s_32.1) (aa (gV n_35 4 s_32.1) (ah ?_))))
   obtain rfl:=ae hF
   exact aA (O3 (outs:=([]:List Box)) (.inr rfl) 1 rfl rfl rfl (by kernel_rfl) (by kernel_rfl))
theorem l5 {l_1:(List Rect)} {r:(List Rect)×Int} (hF:gK l_1=some r) :
  FnM Tryz.prog 25 [(gV (aJ 0) 4 l_1)] (([]:List Box)++gI 4 Rect.enc l_1) (kG [.int .i64 r.2] (gV (aJ 0) 4 r.1)) (([]:List Box).map some++gT l_1 (gB 4 Rect.enc r.1)):=by
 refine FnM.of_wHv ⟨Tryz.prog,8,[],[]⟩ rfl Tryz.func25 rfl rfl (lb_ rfl) (by kernel_rfl) ?_
 unfold gK at hF
 refine ai (aa .nil (aa (vI 0) (ah (ak (ai (aa (gV (aJ 0) 4 l_1) (Cf uC rfl wz (aa (vB (decide ((l_1.length:Int)>2000))) (ah ?_)))))))))
 rcases aj hF with⟨hc_2,hF⟩|⟨hc_2,hF⟩
 ·refine aC rfl hc_2 (ai (aa .nil (aa (vI 2) (ah (Db (i:=0) rfl (wH_re (v':=(gV (aJ 0) 4 ([]:List Rect))) 2 rfl rfl (wH_reH (b':=gB 4 Rect.enc ([]:List Rect)) 0 rfl rfl ?_)))))))
  obtain rfl:=ae hF
  exact aA (MM (bs:=[]) (os:=[]) (xs:=l_1) (ys:=([]:List Rect)) [.int .i64 2] (.inr rfl) rfl ⟨rfl,trivial⟩ (λ_=>rfl) rfl rfl (by kernel_rfl) rfl)
 ·refine aB rfl hc_2 (ax (ai (aa (gV (aJ 0) 4 l_1) (aa (gV (aJ 0) 4 l_1) (aa (vI 0) (ah ?_))))))
  obtain rfl:=ae hF
  exact aA (MM (bs:=[]) (os:=[]) (xs:=l_1) (ys:=l_1) [.int .i64 0] (.inr rfl) rfl ⟨rfl,trivial⟩ (λh_=>h_) rfl rfl (by kernel_rfl) rfl)
theorem yG {l_1:(List Rect)} {r:(List Rect)×Int} (hF:lq l_1=some r) :
  FnM Tryz.prog 7 [(vL Rect.enc l_1)] [] (kG [.int .i64 r.2] (gV (aJ 0) 4 r.1)) (([]:List Box).map some++gO 4 Rect.enc r.1):=by
 refine FnM.of_wH ⟨Tryz.prog,15,[],[]⟩ rfl Tryz.func7 rfl rfl (lb_ rfl) (by kernel_rfl) ?_
 unfold lq at hF
 refine ai (aa .nil (aa (vI 0) (ah (ak (ai (aa (vL Rect.enc l_1) ?_))))))
 obtain ⟨r_2,hr_3,hF⟩:=bind_some hF
 refine aD (mG hr_3) rfl hb24 rfl rfl rfl rfl wz (aa (vI r_2) (ah (ai (aa (vI r_2) (aa (vB (r_2 != 0)) (ah ?_))))))
 rcases aj hF with⟨hc_4,hF⟩|⟨hc_4,hF⟩
 ·refine aC rfl hc_4 (ai (aa (vI r_2) (aa .nil (aa (vI r_2) (ah (iV (λn_5 => ?_)))))))
  obtain rfl:=ae hF
  exact aA (wO (outs:=([]:List Box)) [.int .i64 r_2] (.inr rfl) 0 rfl ⟨rfl,trivial⟩ rfl rfl (by kernel_rfl) (by kernel_rfl))
 ·refine aB rfl hc_4 (ax (ai (aa (vL Rect.enc l_1) ?_)))
  obtain ⟨r_6,hr_7,hF⟩:=bind_some hF
  refine Iw [] (oZ hr_7) rfl O5 rfl (by kernel_rfl) (by kernel_rfl) (by kernel_rfl) (by kernel_rfl) (by kernel_rfl) rfl (by decide) (by kernel_rfl) wz ([]:Hp) (λ_=>by kernel_rfl) (λn_9 => ?_)
  obtain ⟨r_10,hr_11,hF⟩:=bind_some hF
  obtain ⟨_,ht_12,hF⟩:=bind_some hF
  refine zD [.int .i64 r_10.2] 0 [] 0 0 il ft (l5 hr_11) (Cg ht_12) rfl hb25 rfl rfl (by kernel_rfl) (by kernel_rfl) rfl rfl (by kernel_rfl) (by kernel_rfl) (by kernel_rfl) rfl (by decide) (by kernel_rfl) wz ([(n_9,gB 4 Rect.enc r_10.1)]:Hp) (by kernel_rfl) (aa (gV n_9 4 r_10.1) (aa (vI r_10.2) (aa (gV n_9 4 r_10.1) (aa (vI r_10.2) (ah ?_)))))
  obtain rfl:=ae hF
  exact aA (wO (outs:=([]:List Box)) [.int .i64 r_10.2] (.inr rfl) 0 rfl ⟨rfl,trivial⟩ rfl rfl (by kernel_rfl) (by kernel_rfl))
end Go.Proofs.YtnkgapmhkhcanaaGreatDoor.Law

