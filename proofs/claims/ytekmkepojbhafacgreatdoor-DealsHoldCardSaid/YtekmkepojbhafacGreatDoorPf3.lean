/-
 The machine computes these plain functions (written by a program of ours).
-/
import Derived.Test.YtekmkepojbhafacGreatDoorFacts
import Derived.Test.YtekmkepojbhafacGreatDoorDefs
import Derived.Test.YtekmkepojbhafacGreatDoorPf2
import Derived.Test.YtekmkepojbhafacGreatDoorShelf
open Go Go.Eng Go.Proofs
namespace Go.Proofs.YtekmkepojbhafacGreatDoor.Law
set_option maxRecDepth 100000
set_option linter.unusedVariables false
set_option maxHeartbeats 1000000
theorem nR {n_1:Int} {r:Bool} (hF:gu n_1=some r) :
  FnM Tryz.prog 85 [.nil,(vI n_1)] [] (kV r (ax 0) 4 ([]:List Rect)) (kO r 4):=by
 refine FnM.of_wH ⟨Tryz.prog,27,[],[]⟩ rfl Tryz.func85 rfl rfl (lb_ rfl) (by kernel_rfl) ?_
 unfold gu at hF
 refine ai (aa .nil (ah (ak (ai (aa (vI n_1) (aa (vB (decide (n_1<0))) (ah ?_)))))))
 rcases aj hF with⟨hc_2,hF⟩|⟨hc_2,hF⟩
 ·refine aB rfl hc_2 (au ?_)
  cases hF
 ·refine aA rfl hc_2 (av (ak (ai (aa (vI n_1) (aa .nil (Ou Lh rfl wz (aa .nil (O6 Be rfl wz (aa (vI (w64 (0-0))) (aa (vI (w64 (n_1-(w64 (0-0))))) (aa (vI (w64 (n_1-(w64 (0-0))))) (ah (ai (aa (vI (w64 (n_1-(w64 (0-0))))) (aa (vB (decide ((w64 (n_1-(w64 (0-0))))>0))) (ah ?_))))))))))))))))
  rcases aj hF with⟨hc_3,hF⟩|⟨hc_3,hF⟩
  ·refine aB rfl hc_3 (au (aa .nil (aa .nil (Ou Lh rfl wz (aG .nil wz (by kernel_rfl) (aa (vI (w64 (n_1-(w64 (0-0))))) ?_))))))
   obtain ⟨_,hz_5,hF⟩:=bind_some hF
   refine h_appz (enc:=Rect.enc) 0 (.inl rfl) Lh (by kernel_rfl) xI z66 rfl (by decide) by66 rfl rfl hz_5 wz (λn_4=>aa .nil (O6 Be rfl wz (h_cutm (m:=0) Be xI rfl rfl rfl (Nat.zero_le _) wz (aa (.vs n_4 4 0 0) (ah (ai (aa (.vs n_4 4 0 0) (aa (.vs n_4 4 0 0) (ah ?_)))))))))
   obtain rfl:=ae hF
   exact ay (finK (.inr rfl) 0 rfl rfl)
  ·refine aA rfl hc_3 (av (ai (aa .nil (aa .nil (ah ?_)))))
   obtain rfl:=ae hF
   exact ay (finK0 (.inr rfl) rfl)
theorem nU {slices_1:(List (List Rect))} {r:(List Rect)} (hF:d9 slices_1=some r) :
  FnM Tryz.prog 62 [(vL (eL Rect.enc) slices_1)] [] (vL Rect.enc r) []:=by
 refine FnM.of_wH ⟨Tryz.prog,36,[],[]⟩ rfl Tryz.func62 rfl rfl (lb_ rfl) (by kernel_rfl) ?_
 unfold d9 at hF
 refine ai (aa .nil (ah (ai (aa (vI 0) (ah (ak (ai (aa (vL (eL Rect.enc) slices_1) (bR un148 rfl wz (aa (vI 0) (ah ?_)))))))))))
 obtain ⟨o_10,hj_11,hF⟩:=bind_some hF
 obtain ⟨hn_6,hj_11⟩:=bf hj_11
 refine cz (λ(s_7:Int)=>[(0,(vL (eL Rect.enc) slices_1)),(3,(vI s_7))]) (λ(s_7:Int)=>[]) (λ(k_2:Nat)=>(λ(s_7:Int)=>[(0,(vL (eL Rect.enc) slices_1)),(3,(vI s_7)),(9,(vL (eL Rect.enc) slices_1)),(10,(vI (slices_1.length:Int))),(11,(vI (k_2:Int)))])) (λk x s=>fG k x s) o_10 slices_1 0 hj_11 rfl (aL rfl) ?_ ?_
 ·rintro ⟨k_2,l_3,s_7⟩ ⟨hL_9,hD_5⟩
  dsimp only at hL_9 hD_5
  cases l_3 with
  | nil =>
   obtain rfl:=ae hL_9
   refine ai (aa (vB (decide ((k_2:Int)<(slices_1.length:Int)))) (ah ?_))
   refine ak (aA rfl (drop_nil hD_5) (aV ?_))
   exact aS (s_7) rfl rfl (aL rfl)
  | cons x_4 l_3 =>
   obtain ⟨c_,hc_8,hL_9⟩:=bind_some hL_9
   refine ai (aa (vB (decide ((k_2:Int)<(slices_1.length:Int)))) (ah ?_))
   refine ak (aB rfl (bv hD_5) (av ?_))
   unfold fG at hc_8
   refine ak (aM (ai (dD Oz rfl rfl (bI hD_5) rfl wz (bE NG MV rfl (vL Rect.enc x_4) rfl wz (aa (vL Rect.enc x_4) (ah (ai (aa (vI s_7) (aa (vL Rect.enc x_4) (bR Be rfl wz (aa (vI (w64 (s_7+(x_4.length:Int)))) (aa (vI (w64 (s_7+(x_4.length:Int)))) (ah (ai (aa (vI (w64 (s_7+(x_4.length:Int)))) (aa (vB (decide ((w64 (s_7+(x_4.length:Int)))<0))) (ah ?_)))))))))))))))))
   obtain ⟨v_12,h_13,hc_8⟩:=bind_some hc_8
   refine aQ [(0,(vL (eL Rect.enc) slices_1)),(3,(vI (w64 (s_7+(x_4.length:Int))))),(9,(vL (eL Rect.enc) slices_1)),(10,(vI (slices_1.length:Int))),(11,(vI (k_2:Int)))] [] ?_ ?_
   ·rcases aj h_13 with⟨hc_14,h_13⟩|⟨hc_14,h_13⟩
    ·refine aB rfl hc_14 (au ?_)
     cases h_13
    ·refine aA rfl hc_14 (av ?_)
     obtain rfl:=ae h_13
     exact cu
   ·rintro ⟨⟩ _ sl_ H_ hp_ hq_
    refine aO _ hp_ hq_ (au (dS (bC hD_5 hn_6) wz rfl (aa (vI ((k_2+1:Nat):Int)) (ah ?_))))
    obtain rfl:=ae hc_8
    exact aU (k_2+1,l_3,(w64 (s_7+(x_4.length:Int)))) ⟨hL_9,aX hD_5⟩ (ls_ _) rfl (aL rfl)
 ·rintro s_7 ho_ sl_ H_ hp_ hq_
  subst ho_
  refine aO _ hp_ hq_ (ai (aa (vI s_7) ?_))
  obtain ⟨b_15,hr_16,hF⟩:=bind_some hF
  refine h_callk (enc:=Rect.enc) (nR hr_16) rfl hb85 (by kernel_rfl) rfl (by kernel_rfl) wz (λn_17=>aa (kV b_15 n_17 4 ([]:List Rect)) (ah (ak (ai (aa (vL (eL Rect.enc) slices_1) (bR un148 rfl wz (aa (vI 0) (ah ?_))))))))
  obtain ⟨o_28,hj_29,hF⟩:=bind_some hF
  obtain ⟨hn_22,hj_29⟩:=bf hj_29
  refine iP (σ:=(List Rect)) (N:=Nm) (λp=>(λ(s_23:List Rect) (n_25:Nm)=>([(6,(kV b_15 n_25 4 s_23))]:SL_)) p.1 p.2) (λp=>(λ(s_23:List Rect) (n_25:Nm)=>([(n_25,kB b_15 4 Rect.enc s_23)]:Hp)) p.1 p.2) (λ(k_18:Nat)=>(λp=>(λ(s_23:List Rect) (n_25:Nm)=>([(6,(kV b_15 n_25 4 s_23)),(25,(vL (eL Rect.enc) slices_1)),(26,(vI (slices_1.length:Int))),(27,(vI (k_18:Int)))]:SL_)) p.1 p.2)) (λk x s=>fI k x s) o_28 slices_1 (([]:List Rect),n_17) hj_29 rfl (aL rfl) ?_ ?_
  ·rintro ⟨k_18,l_19,s_23,n_25⟩ ⟨hL_27,hD_21⟩
   dsimp only at hL_27 hD_21
   cases l_19 with
   | nil =>
    obtain rfl:=ae hL_27
    refine ai (aa (vB (decide ((k_18:Int)<(slices_1.length:Int)))) (ah ?_))
    refine ak (aA rfl (drop_nil hD_21) (aV ?_))
    exact aS (s_23,n_25) rfl rfl (aL rfl)
   | cons x_20 l_19 =>
    obtain ⟨c_,hc_26,hL_27⟩:=bind_some hL_27
    refine ai (aa (vB (decide ((k_18:Int)<(slices_1.length:Int)))) (ah ?_))
    refine ak (aB rfl (bv hD_21) (av ?_))
    unfold fI at hc_26
    refine ak (aM (ai (dD Oz rfl rfl (bI hD_21) rfl wz (bE NG MV rfl (vL Rect.enc x_20) rfl wz (aa (vL Rect.enc x_20) (ah (au (aa (kV b_15 n_25 4 s_23) (aa (vL Rect.enc x_20) ?_)))))))))
    obtain ⟨a_30,hz_31,hc_26⟩:=bind_some hc_26
    refine h_appk 0 il ft (i:=0) Lh Lh xI z66 rfl (by decide) by66 (by decide) (λ_=>rfl) rfl rfl rfl hz_31 wz (λn_32=>aa (kV b_15 n_32 4 a_30) (ah (au (dS (bC hD_21 hn_22) wz rfl (aa (vI ((k_18+1:Nat):Int)) (ah ?_))))))
    obtain rfl:=ae hc_26
    exact aU (k_18+1,l_19,a_30,n_32) ⟨hL_27,aX hD_21⟩ (ls_ _) rfl (aL rfl)
  ·rintro ⟨s_23,n_25⟩ ho_ sl_ H_ hp_ hq_
   subst ho_
   refine aO _ hp_ hq_ (ai (aa (kV b_15 n_25 4 s_23) (aa (kV b_15 n_25 4 s_23) (ah (Px 0 rfl (LB 2 0 rfl rfl (LB 6 0 rfl rfl (LB 35 0 rfl rfl ?_))))))))
   obtain rfl:=ae hF
   exact ay (aK [(vL Rect.enc s_23)] ⟨rfl,trivial⟩)
theorem tq {x r:(List Int)} (hF:iR x=some r) :
  FnM Tryz.prog 63 [(dV (ax 0) 1 x)] (([]:List Box)++gI 1 eI x) (.tup []) (([]:List Box).map some++gT x (gB 1 eI r)) :=
 O3 Tryz.slices_Sort_int Tryz.slices_Sort_int_none hF
theorem qZ {s_1:(List Int)} {r:(List Int)} (hF:eX s_1=some r) :
  FnM Tryz.prog 64 [(dV (ax 0) 1 s_1)] (([]:List Box)++gI 1 eI s_1) (vL eI r) (([]:List Box).map some++gT s_1 none):=by
 refine FnM.of_wHv ⟨Tryz.prog,61,[],[]⟩ rfl Tryz.func64 rfl rfl (lb_ rfl) (by kernel_rfl) ?_
 unfold eX at hF
 refine ai (aa .nil (ah (ak (ai (aa (dV (ax 0) 1 s_1) (K9 u7 rfl wz (aa (vB (decide ((s_1.length:Int)<2))) (ah ?_))))))))
 rcases aj hF with⟨hc_2,hF⟩|⟨hc_2,hF⟩
 ·refine aB rfl hc_2 (ai (aa (dV (ax 0) 1 s_1) (aa (dV (ax 0) 1 s_1) (ah (jN 0 rfl (zu 0 0 rfl rfl (zu 2 0 rfl rfl (zu 6 0 rfl rfl (zu 9 0 rfl rfl (Hy (i:=0) rfl ?_))))))))))
  obtain rfl:=ae hF
  exact ay (Kv (bs:=([]:List Box)) (os:=([]:List Box)) (xs:=s_1) (o:=none) (.inr rfl) [(vL eI s_1)] ⟨rfl,trivial⟩ rfl rfl rfl rfl rfl (by kernel_rfl) De rfl)
 ·refine aA rfl hc_2 (av (ak (ai (aa (vI 1) (ah ?_)))))
  obtain ⟨o_11,hj_12,hF⟩:=bind_some hF
  obtain ⟨nq_52,hj_12⟩:=dA hj_12
  refine dZ (λ(s_8:Int)=>[(0,(dV (ax 0) 1 s_1))]) (λ(s_8:Int)=>[((ax 0),gB 1 eI s_1)]) (λ(k_3:Nat)=>(λ(s_8:Int)=>[(0,(dV (ax 0) 1 s_1)),(3,(vI s_8))])) (λs=>dN s_1 s) o_11 nq_52 1 hj_12 rfl (aL rfl) ?_ ?_
  ·rintro ⟨k_3,s_8⟩ hL_10
   dsimp only at hL_10
   cases k_3 with
   | zero=>cases hL_10
   | succ k_3 =>
    obtain ⟨c_,hc_9,hL_10⟩:=bind_some hL_10
    unfold dN at hc_9
    refine ak (ai (aa (vI s_8) (aa (dV (ax 0) 1 s_1) (K9 u7 rfl wz (aa (vB (decide (s_8<(s_1.length:Int)))) (ah ?_))))))
    rcases aj hc_9 with⟨hc_13,hc_9⟩|⟨hc_13,hc_9⟩
    ·refine aB rfl hc_13 (av (ak (aM (ak (bB (aa (dV (ax 0) 1 s_1) (aa (vI s_8) ?_)))))))
     obtain ⟨_,hi_14,hc_9⟩:=bind_some hc_9
     refine xn gK rfl rfl (gZ hi_14) (ek hi_14) wz ?_
     obtain ⟨e_15,hy_16,hc_9⟩:=bind_some hc_9
     refine uj 3 0 (.inr (by kernel_rfl)) (λ_ _ ag=>trivial) sz3 ag3 rfl rfl hy_16 (vI e_15) rfl wz (aa (dV (ax 0) 1 s_1) (aa (vI s_8) (aa (vI (w64 (s_8-1))) ?_)))
     obtain ⟨_,hi_17,hc_9⟩:=bind_some hc_9
     refine xn gK rfl rfl (gZ hi_17) (ek hi_17) wz ?_
     obtain ⟨e_18,hy_19,hc_9⟩:=bind_some hc_9
     refine uj 8 0 (.inr (by kernel_rfl)) (λ_ _ ag=>⟨.inl ⟨rfl,rfl⟩,trivial⟩) sz3 ag3 rfl rfl hy_19 (vI e_18) rfl wz (aa (vB (e_15==e_18)) (ah ?_))
     rcases aj hc_9 with⟨hc_20,hc_9⟩|⟨hc_20,hc_9⟩
     ·refine aB rfl hc_20 (ai (aa (dV (ax 0) 1 s_1) (aa (vI s_8) ?_)))
      obtain ⟨_,hn_21,hc_9⟩:=bind_some hc_9
      replace hn_21:=O7 hn_21
      refine jY (v':=(vV (ax 0) 1 s_1)) 0 rfl (zX hn_21) (jY (v':=(vV (ax 0) 1 s_1)) 11 rfl (zX hn_21) (jY (v':=(vV (ax 0) 1 s_1)) 16 rfl (zX hn_21) (jY (v':=(vV (ax 0) 1 s_1)) 20 rfl (zX hn_21) (jY (v':=(vV (ax 0) 1 s_1)) 26 rfl (zX hn_21) (tJ 0 rfl (Ma hn_21) ?_)))))
      obtain ⟨_,hr_22,hc_9⟩:=bind_some hc_9
      refine JA u7 sz3 rfl rfl hr_22 wz (aa (.vs (ax 0) 1 ((s_8).toNat) (((s_1.length:Int)).toNat-(s_8).toNat)) (ah (ak (ai (aa (vI 1) (ah ?_))))))
      obtain ⟨o_31,hj_32,hc_9⟩:=bind_some hc_9
      obtain ⟨nq_51,hj_32⟩:=dA hj_32
      refine dZ (λ(s_28:(List Int)×Int×Int)=>[(0,(vV (ax 0) 1 s_28.1)),(3,(vI s_28.2.1))]) (λ(s_28:(List Int)×Int×Int)=>[((ax 0),some (bV 1 eI s_28.1))]) (λ(k_23:Nat)=>(λ(s_28:(List Int)×Int×Int)=>[(0,(vV (ax 0) 1 s_28.1)),(3,(vI s_28.2.1)),(4,(.vs (ax 0) 1 ((s_8).toNat) (((s_1.length:Int)).toNat-(s_8).toNat))),(5,(vI s_28.2.2))])) (λs=>fC s_1 s_8 s) o_31 nq_51 (s_1,s_8,1) hj_32 rfl (aL rfl) ?_ ?_
      ·rintro ⟨k_23,s_28⟩ hL_30
       dsimp only at hL_30
       cases k_23 with
       | zero=>cases hL_30
       | succ k_23 =>
        obtain ⟨c_,hc_29,hL_30⟩:=bind_some hL_30
        unfold fC at hc_29
        refine ak (ai (aa (vI s_28.2.2) (aa (.vs (ax 0) 1 ((s_8).toNat) (((s_1.length:Int)).toNat-(s_8).toNat)) (H7 u7 rfl wz (aa (vB (decide (s_28.2.2<(((((s_1.length:Int)).toNat-(s_8).toNat):Nat):Int)))) (ah ?_))))))
        rcases aj hc_29 with⟨hc_33,hc_29⟩|⟨hc_33,hc_29⟩
        ·refine aB rfl hc_33 (av (ak (aM (ak (bB (aa (.vs (ax 0) 1 ((s_8).toNat) (((s_1.length:Int)).toNat-(s_8).toNat)) (aa (vI s_28.2.2) ?_)))))))
         obtain ⟨_,hi_34,hc_29⟩:=bind_some hc_29
         refine jT gK rfl rfl (oH hi_34) (kT hi_34) wz ?_
         obtain ⟨e_35,hy_36,hc_29⟩:=bind_some hc_29
         refine zQ 3 0 (.inr (by kernel_rfl)) (λ_ _ ag=>trivial) sz3 ag3 rfl rfl hy_36 (vI e_35) rfl wz (aa (.vs (ax 0) 1 ((s_8).toNat) (((s_1.length:Int)).toNat-(s_8).toNat)) (aa (vI s_28.2.2) (aa (vI (w64 (s_28.2.2-1))) ?_)))
         obtain ⟨_,hi_37,hc_29⟩:=bind_some hc_29
         refine jT gK rfl rfl (oH hi_37) (kT hi_37) wz ?_
         obtain ⟨e_38,hy_39,hc_29⟩:=bind_some hc_29
         refine zQ 8 0 (.inr (by kernel_rfl)) (λ_ _ ag=>⟨.inl ⟨rfl,rfl⟩,trivial⟩) sz3 ag3 rfl rfl hy_39 (vI e_38) rfl wz (aa (vB (e_35 != e_38)) (ah ?_))
         obtain ⟨v_40,h_41,hc_29⟩:=bind_some hc_29
         refine aQ [(0,(vV (ax 0) 1 v_40.1)),(3,(vI v_40.2)),(4,(.vs (ax 0) 1 ((s_8).toNat) (((s_1.length:Int)).toNat-(s_8).toNat))),(5,(vI s_28.2.2))] [((ax 0),some (bV 1 eI v_40.1))] ?_ ?_
         ·rcases aj h_41 with⟨hc_42,h_41⟩|⟨hc_42,h_41⟩
          ·refine aB rfl hc_42 (ai (aa (vV (ax 0) 1 s_28.1) (aa (vI s_28.2.1) (aa (.vs (ax 0) 1 ((s_8).toNat) (((s_1.length:Int)).toNat-(s_8).toNat)) (aa (vI s_28.2.2) ?_)))))
           obtain ⟨_,hi_43,h_41⟩:=bind_some h_41
           refine jT gK rfl rfl (oH hi_43) (kT hi_43) wz ?_
           obtain ⟨e_44,hy_45,h_41⟩:=bind_some h_41
           refine zQ 0 0 il ft sz3 ag3 rfl rfl hy_45 (vI e_44) rfl wz ?_
           obtain ⟨_,hi_46,h_41⟩:=bind_some h_41
           refine jT gK rfl rfl (gZ hi_46) (ek hi_46) wz ?_
           obtain ⟨e_47,hy_48,h_41⟩:=bind_some h_41
           refine JE 0 il ft 0 sz3 rfl rfl hy_48 e_44 rfl wz (jY (v':=(vV (ax 0) 1 (s_28.1.set (0+(s_28.2.1).toNat) e_44))) 0 rfl (uA (by simp)) (jY (v':=(vV (ax 0) 1 (s_28.1.set (0+(s_28.2.1).toNat) e_44))) 45 rfl (uA (by simp)) (ah (au (aa (vI s_28.2.1) (aa (vI (w64 (s_28.2.1+1))) (aa (vI (w64 (s_28.2.1+1))) (ah ?_))))))))
           obtain rfl:=ae h_41
           exact cu
          ·refine aA rfl hc_42 (av ?_)
           obtain rfl:=ae h_41
           exact cu
         ·rintro ⟨⟩ _ sl_ H_ hp_ hq_
          refine aO _ hp_ hq_ (au (aa (vI s_28.2.2) (aa (vI (w64 (s_28.2.2+1))) (aa (vI (w64 (s_28.2.2+1))) (ah ?_)))))
          obtain rfl:=ae hc_29
          exact aU (k_23,(v_40.1,v_40.2,(w64 (s_28.2.2+1)))) hL_30 (ls_ _) rfl (aL rfl)
        ·refine aA rfl hc_33 (aV ?_)
         obtain rfl:=ae hc_29
         obtain rfl:=ae hL_30
         exact aS ((s_28.1,s_28.2.1,s_28.2.2)) rfl rfl (aL rfl)
      ·rintro s_28 ho_ sl_ H_ hp_ hq_
       subst ho_
       refine aO _ hp_ hq_ (ai (aa (vV (ax 0) 1 s_28.1) (aa (vI s_28.2.1) ?_)))
       obtain ⟨_,hr_49,hc_9⟩:=bind_some hc_9
       refine JA u7 sz3 rfl rfl hr_49 wz (h_clear (i:=0) 0 il ft 0 KH sz3 z3 rfl rfl rfl (by decide) rfl (Ad hr_49) rfl wz (jY (v':=(vV (ax 0) 1 (s_28.1.take ((s_28.2.1).toNat)++List.replicate (((s_28.1.length:Int)).toNat-(s_28.2.1).toNat) 0++s_28.1.drop (((s_28.2.1).toNat)+(((s_28.1.length:Int)).toNat-(s_28.2.1).toNat))))) 0 rfl (uA (Gs (Ad hr_49))) (jY (v':=(vV (ax 0) 1 (s_28.1.take ((s_28.2.1).toNat)++List.replicate (((s_28.1.length:Int)).toNat-(s_28.2.1).toNat) 0++s_28.1.drop (((s_28.2.1).toNat)+(((s_28.1.length:Int)).toNat-(s_28.2.1).toNat))))) 54 rfl (uA (Gs (Ad hr_49))) (ah (ai (aa (vV (ax 0) 1 (s_28.1.take ((s_28.2.1).toNat)++List.replicate (((s_28.1.length:Int)).toNat-(s_28.2.1).toNat) 0++s_28.1.drop (((s_28.2.1).toNat)+(((s_28.1.length:Int)).toNat-(s_28.2.1).toNat)))) (aa (vI s_28.2.1) ?_)))))))
       obtain ⟨_,hr_50,hc_9⟩:=bind_some hc_9
       refine OX u7 sz3 rfl rfl hr_50 wz (aa (.vs (ax 0) 1 0 ((s_28.2.1).toNat)) (ah (Dh 0 rfl (y5 0 0 rfl rfl (Ph 2 0 rfl rfl (Ad hr_50) (y5 54 0 rfl rfl (y5 57 0 rfl rfl (Ph 59 0 rfl rfl (Ad hr_50) (Hy (i:=0) rfl ?_)))))))))
       obtain rfl:=ae hc_9
       obtain rfl:=ae hL_10
       obtain rfl:=ae hF
       exact ay (Kv (bs:=([]:List Box)) (os:=([]:List Box)) (xs:=s_1) (o:=none) (.inr rfl) [(vL eI (cutL (s_28.1.take ((s_28.2.1).toNat)++List.replicate (((s_28.1.length:Int)).toNat-(s_28.2.1).toNat) 0++s_28.1.drop (((s_28.2.1).toNat)+(((s_28.1.length:Int)).toNat-(s_28.2.1).toNat))) 0 ((s_28.2.1).toNat)))] ⟨rfl,trivial⟩ rfl rfl rfl rfl rfl (by kernel_rfl) De rfl)
     ·refine aA rfl hc_20 (av (au (aa (vI s_8) (aa (vI (w64 (s_8+1))) (aa (vI (w64 (s_8+1))) (ah ?_))))))
      obtain rfl:=ae hc_9
      exact aU (k_3,(w64 (s_8+1))) hL_10 (ls_ _) rfl (aL rfl)
    ·refine aA rfl hc_13 (aV ?_)
     obtain rfl:=ae hc_9
     obtain rfl:=ae hL_10
     exact aS (s_8) rfl rfl (aL rfl)
  ·rintro s_8 ho_ sl_ H_ hp_ hq_
   subst ho_
   refine aO _ hp_ hq_ (ai (aa (dV (ax 0) 1 s_1) (aa (dV (ax 0) 1 s_1) (ah (jN 0 rfl (zu 0 0 rfl rfl (zu 2 0 rfl rfl (zu 60 0 rfl rfl (Hy (i:=0) rfl ?_)))))))))
   obtain rfl:=ae hF
   exact ay (Kv (bs:=([]:List Box)) (os:=([]:List Box)) (xs:=s_1) (o:=none) (.inr rfl) [(vL eI s_1)] ⟨rfl,trivial⟩ rfl rfl rfl rfl rfl (by kernel_rfl) De rfl)
theorem Bt {a_1:Run} {b_2:Run} {r:Int} (hF:ul a_1 b_2=some r) :
  FnM Tryz.prog 89 [(.d (.agg (Run.enc a_1))),(.d (.agg (Run.enc b_2)))] [] (vI r) []:=by
 refine FnM.of_wH ⟨Tryz.prog,10,[],[]⟩ rfl Tryz.func89 rfl rfl (lb_ rfl) (by kernel_rfl) ?_
 unfold ul at hF
 refine ai (ig 0 (.inl rfl) [(vI a_1.f_from),(vI a_1.f_to)] rfl rfl wz (λn_3=>ig 0 (.inl rfl) [(vI b_2.f_from),(vI b_2.f_to)] rfl rfl wz (λn_4=>aa (vI 0) (ah (ai (aH lM rfl 0 rfl wz (aF 0 0 il ft sz3 ag3 rfl rfl (vI a_1.f_from) rfl wz (aH lM rfl 0 rfl wz (aF 0 1 il ft sz3 ag3 rfl rfl (vI b_2.f_from) rfl wz (aa (vI (w64 (a_1.f_from-b_2.f_from))) (aa (vI (w64 (a_1.f_from-b_2.f_from))) (ah ?_))))))))))))
 obtain rfl:=ae hF
 exact ay (aK [(vI (w64 (a_1.f_from-b_2.f_from)))] ⟨rfl,trivial⟩)
theorem zz {x_1:Int} {r:Int} (hF:qN x_1=some r) :
  FnM Tryz.prog 108 [(.d (.int .u64 x_1))] [] (vI r) []:=by
 refine FnM.of_wH ⟨Tryz.prog,25,[],[]⟩ rfl Tryz.func108 rfl rfl (lb_ rfl) (by kernel_rfl) ?_
 unfold qN at hF
 refine ai (aa (vI 0) (ah (ak (ai (aa (.d (.int .u64 x_1)) (aa (vB (decide (x_1>=4294967296))) (ah ?_)))))))
 obtain ⟨v_2,h_3,hF⟩:=bind_some hF
 refine aQ [(0,(.d (.int .u64 v_2.1))),(2,(vI v_2.2))] [] ?_ ?_
 ·rcases aj h_3 with⟨hc_4,h_3⟩|⟨hc_4,h_3⟩
  ·refine aB rfl hc_4 (ai (aa (.d (.int .u64 x_1)) ?_))
   obtain ⟨q_5,hz_6,h_3⟩:=bind_some h_3
   refine Ff rfl rfl hz_6 wz (aa (.d (.int .u64 q_5)) (ah (au (aa (vI 32) (ah ?_)))))
   obtain rfl:=ae h_3
   exact cu
  ·refine aA rfl hc_4 (av ?_)
   obtain rfl:=ae h_3
   exact cu
 ·rintro ⟨⟩ _ sl_ H_ hp_ hq_
  refine aO _ hp_ hq_ (ak (ai (aa (.d (.int .u64 v_2.1)) (aa (vB (decide (v_2.1>=65536))) (ah ?_)))))
  obtain ⟨v_7,h_8,hF⟩:=bind_some hF
  refine aQ [(0,(.d (.int .u64 v_7.1))),(2,(vI v_7.2))] [] ?_ ?_
  ·rcases aj h_8 with⟨hc_9,h_8⟩|⟨hc_9,h_8⟩
   ·refine aB rfl hc_9 (ai (aa (.d (.int .u64 v_2.1)) ?_))
    obtain ⟨q_10,hz_11,h_8⟩:=bind_some h_8
    refine Ff rfl rfl hz_11 wz (aa (.d (.int .u64 q_10)) (ah (au (aa (vI v_2.2) (aa (vI (w64 (v_2.2+16))) (aa (vI (w64 (v_2.2+16))) (ah ?_)))))))
    obtain rfl:=ae h_8
    exact cu
   ·refine aA rfl hc_9 (av ?_)
    obtain rfl:=ae h_8
    exact cu
  ·rintro ⟨⟩ _ sl_ H_ hp_ hq_
   refine aO _ hp_ hq_ (ak (ai (aa (.d (.int .u64 v_7.1)) (aa (vB (decide (v_7.1>=256))) (ah ?_)))))
   obtain ⟨v_12,h_13,hF⟩:=bind_some hF
   refine aQ [(0,(.d (.int .u64 v_12.1))),(2,(vI v_12.2))] [] ?_ ?_
   ·rcases aj h_13 with⟨hc_14,h_13⟩|⟨hc_14,h_13⟩
    ·refine aB rfl hc_14 (ai (aa (.d (.int .u64 v_7.1)) ?_))
     obtain ⟨q_15,hz_16,h_13⟩:=bind_some h_13
     refine Ff rfl rfl hz_16 wz (aa (.d (.int .u64 q_15)) (ah (au (aa (vI v_7.2) (aa (vI (w64 (v_7.2+8))) (aa (vI (w64 (v_7.2+8))) (ah ?_)))))))
     obtain rfl:=ae h_13
     exact cu
    ·refine aA rfl hc_14 (av ?_)
     obtain rfl:=ae h_13
     exact cu
   ·rintro ⟨⟩ _ sl_ H_ hp_ hq_
    refine aO _ hp_ hq_ (ai (aa (vI v_12.2) (aa (.d (.int .u64 v_12.1)) (kR AX un5 rfl wz ?_))))
    obtain ⟨b_17,hy_18,hF⟩:=bind_some hF
    refine kN un9 rfl rfl hy_18 wz (kR un5 un3 rfl wz (aa (vI (w64 (v_12.2+(w64 (b_17.toNat:Int))))) (aa (vI (w64 (v_12.2+(w64 (b_17.toNat:Int))))) (ah ?_))))
    obtain rfl:=ae hF
    exact ay (aK [(vI (w64 (v_12.2+(w64 (b_17.toNat:Int)))))] ⟨rfl,trivial⟩)
theorem BF {x_1:Int} {r:Int} (hF:qc x_1=some r) :
  FnM Tryz.prog 87 [(.d (.int .u64 x_1))] [] (vI r) []:=by
 refine FnM.of_wH ⟨Tryz.prog,8,[],[]⟩ rfl Tryz.func87 rfl rfl (lb_ rfl) (by kernel_rfl) ?_
 unfold qc at hF
 refine ai (aa (vI 0) (ah (ak (aA rfl rfl (av (ai (aa (.d (.int .u64 x_1)) ?_)))))))
 obtain ⟨r_2,hr_3,hF⟩:=bind_some hF
 refine aD (zz hr_3) rfl hb108 rfl rfl rfl rfl wz (aa (vI r_2) (ah ?_))
 obtain rfl:=ae hF
 exact ay (aK [(vI r_2)] ⟨rfl,trivial⟩)
theorem kC {data_1:(List Run)} {a_2:Int} {b_3:Int} {r:(List Run)} (hF:bT data_1 a_2 b_3=some r) :
  FnM Tryz.prog 123 [(dV (ax 0) 2 data_1),(vI a_2),(vI b_3),(.fn 89 [])] (([]:List Box)++gI 2 Run.enc data_1) (.tup []) (([]:List Box).map some++gT data_1 (gB 2 Run.enc r)):=by
 refine FnM.of_wHv ⟨Tryz.prog,53,[],[]⟩ rfl Tryz.func123 rfl rfl (lb_ rfl) (by kernel_rfl) ?_
 unfold bT at hF
 refine ai (aa (vI a_2) (aa (vI (w64 (a_2+1))) (aa (vI (w64 (a_2+1))) (ah ?_))))
 obtain ⟨o_13,hj_14,hF⟩:=bind_some hF
 obtain ⟨nq_51,hj_14⟩:=dA hj_14
 refine dZ (λ(s_10:(List Run)×Int)=>[]) (λ(s_10:(List Run)×Int)=>[((ax 0),gB 2 Run.enc s_10.1)]) (λ(k_5:Nat)=>(λ(s_10:(List Run)×Int)=>[(0,(dV (ax 0) 2 s_10.1)),(1,(vI a_2)),(2,(vI b_3)),(3,(.fn 89 [])),(8,(vI s_10.2))])) (λs=>bJ b_3 a_2 s) o_13 nq_51 (data_1,(w64 (a_2+1))) hj_14 rfl (aL rfl) ?_ ?_
 ·rintro ⟨k_5,s_10⟩ hL_12
  dsimp only at hL_12
  cases k_5 with
  | zero=>cases hL_12
  | succ k_5 =>
   obtain ⟨c_,hc_11,hL_12⟩:=bind_some hL_12
   unfold bJ at hc_11
   refine ak (ai (aa (vI s_10.2) (aa (vI b_3) (aa (vB (decide (s_10.2<b_3))) (ah ?_)))))
   rcases aj hc_11 with⟨hc_15,hc_11⟩|⟨hc_15,hc_11⟩
   ·refine aB rfl hc_15 (av (ak (aM (ai (aa (vI s_10.2) (aa (vI s_10.2) (ah ?_)))))))
    obtain ⟨o_24,hj_25,hc_11⟩:=bind_some hc_11
    obtain ⟨nq_50,hj_25⟩:=dA hj_25
    refine dZ (λ(s_21:(List Run)×Int)=>[(0,(dV (ax 0) 2 s_21.1)),(1,(vI a_2)),(2,(vI b_3)),(3,(.fn 89 [])),(8,(vI s_10.2))]) (λ(s_21:(List Run)×Int)=>[((ax 0),gB 2 Run.enc s_21.1)]) (λ(k_16:Nat)=>(λ(s_21:(List Run)×Int)=>[(0,(dV (ax 0) 2 s_21.1)),(1,(vI a_2)),(2,(vI b_3)),(3,(.fn 89 [])),(8,(vI s_10.2)),(9,(vI s_21.2))])) (λs=>cK a_2 s) o_24 nq_50 (s_10.1,s_10.2) hj_25 rfl (aL rfl) ?_ ?_
    ·rintro ⟨k_16,s_21⟩ hL_23
     dsimp only at hL_23
     cases k_16 with
     | zero=>cases hL_23
     | succ k_16 =>
      obtain ⟨c_,hc_22,hL_23⟩:=bind_some hL_23
      unfold cK at hc_22
      refine ak (ak ?_)
      obtain ⟨v_26,h_27,hc_22⟩:=bind_some hc_22
      refine aQ [(0,(dV (ax 0) 2 s_21.1)),(1,(vI a_2)),(2,(vI b_3)),(3,(.fn 89 [])),(8,(vI s_10.2)),(9,(vI s_21.2)),(34,(vB v_26))] [((ax 0),gB 2 Run.enc s_21.1)] ?_ ?_
      ·refine bB (aa (vI s_21.2) (aa (vI a_2) (aa (vB (decide (s_21.2>a_2))) ?_)))
       rcases aj h_27 with⟨hc_28,h_27⟩|⟨hc_28,h_27⟩
       ·refine aC rfl hc_28 wz (aG (.fn 89 []) wa rfl (aG (dV (ax 0) 2 s_21.1) wa rfl (aG (vI s_21.2) wa rfl ?_)))
        obtain ⟨_,hi_29,h_27⟩:=bind_some h_27
        refine xn l7 rfl rfl (gZ hi_29) (ek hi_29) wa ?_
        obtain ⟨e_30,hy_31,h_27⟩:=bind_some h_27
        refine uj 8 0 (.inr (by kernel_rfl)) (λ_ _ ag=>trivial) oo xU rfl rfl hy_31 (.d (.agg (Run.enc e_30))) rfl wa (aG (dV (ax 0) 2 s_21.1) wa rfl (aG (vI s_21.2) wa rfl (aG (vI (w64 (s_21.2-1))) wa rfl ?_)))
        obtain ⟨_,hi_32,h_27⟩:=bind_some h_27
        refine xn l7 rfl rfl (gZ hi_32) (ek hi_32) wa ?_
        obtain ⟨e_33,hy_34,h_27⟩:=bind_some h_27
        refine uj 13 0 (.inr (by kernel_rfl)) (λ_ _ ag=>⟨.inl ⟨rfl,rfl⟩,trivial⟩) oo xU rfl rfl hy_34 (.d (.agg (Run.enc e_33))) rfl wa ?_
        obtain ⟨r_35,hr_36,h_27⟩:=bind_some h_27
        refine aD (Bt hr_36) rfl hb89 rfl rfl rfl rfl wa (aG (vB (decide (r_35<0))) wa rfl (aa (vB (decide (r_35<0))) (ah ?_)))
        obtain rfl:=ae h_27
        exact cu
       ·refine aC rfl hc_28 wz (af (af (af (af (af (af (af (af (af (af (af (af (aa (vB false) (ah ?_))))))))))))))
        obtain rfl:=ae h_27
        exact cu
      ·rintro ⟨⟩ _ sl_ H_ hp_ hq_
       refine aO _ hp_ hq_ ?_
       rcases aj hc_22 with⟨hc_37,hc_22⟩|⟨hc_37,hc_22⟩
       ·refine aB rfl hc_37 (av (ak (aM (bB (aa (dV (ax 0) 2 s_21.1) (aa (vI s_21.2) (aa (dV (ax 0) 2 s_21.1) (aa (vI s_21.2) (aa (vI (w64 (s_21.2-1))) (aa (dV (ax 0) 2 s_21.1) (aa (vI s_21.2) (aa (vI (w64 (s_21.2-1))) ?_))))))))))))
        obtain ⟨_,hi_38,hc_22⟩:=bind_some hc_22
        refine xn l7 rfl rfl (gZ hi_38) (ek hi_38) wz ?_
        obtain ⟨e_39,hy_40,hc_22⟩:=bind_some hc_22
        refine uj 9 0 (.inr (by kernel_rfl)) (λ_ _ ag=>trivial) oo xU rfl rfl hy_40 (.d (.agg (Run.enc e_39))) rfl wz (aa (dV (ax 0) 2 s_21.1) (aa (vI s_21.2) ?_))
        obtain ⟨_,hi_41,hc_22⟩:=bind_some hc_22
        refine xn l7 rfl rfl (gZ hi_41) (ek hi_41) wz ?_
        obtain ⟨e_42,hy_43,hc_22⟩:=bind_some hc_22
        refine uj 13 0 (.inr (by kernel_rfl)) (λ_ _ ag=>⟨.inl ⟨rfl,rfl⟩,trivial⟩) oo xU rfl rfl hy_43 (.d (.agg (Run.enc e_42))) rfl wz ?_
        obtain ⟨_,hi_44,hc_22⟩:=bind_some hc_22
        refine xn l7 rfl rfl (gZ hi_44) (ek hi_44) wz ?_
        obtain ⟨e_45,hy_46,hc_22⟩:=bind_some hc_22
        refine D7 15 (.inr (by kernel_rfl)) (λ_ _ ag=>⟨.inr (.inr (by kernel_rfl)),⟨.inr (.inr (by kernel_rfl)),trivial⟩⟩) 0 oo rfl rfl hy_46 e_39 rfl wz (jY (v':=(dV (ax 0) 2 (s_21.1.set (0+(s_21.2).toNat) e_39))) 0 rfl (og (by simp)) (jY (v':=(dV (ax 0) 2 (s_21.1.set (0+(s_21.2).toNat) e_39))) 37 rfl (og (by simp)) (jY (v':=(dV (ax 0) 2 (s_21.1.set (0+(s_21.2).toNat) e_39))) 39 rfl (og (by simp)) (jY (v':=(dV (ax 0) 2 (s_21.1.set (0+(s_21.2).toNat) e_39))) 42 rfl (og (by simp)) (jY (v':=(dV (ax 0) 2 (s_21.1.set (0+(s_21.2).toNat) e_39))) 47 rfl (og (by simp)) ?_)))))
        obtain ⟨_,hi_47,hc_22⟩:=bind_some hc_22
        refine xn l7 rfl rfl (gZ hi_47) (ek hi_47) wz ?_
        obtain ⟨e_48,hy_49,hc_22⟩:=bind_some hc_22
        refine D7 17 (.inr (by kernel_rfl)) (λ_ _ ag=>⟨.inr (.inr (by kernel_rfl)),⟨.inr (.inr (by kernel_rfl)),⟨.inr (.inr (by kernel_rfl)),trivial⟩⟩⟩) 0 oo rfl rfl hy_49 e_42 rfl wz (jY (v':=(dV (ax 0) 2 ((s_21.1.set (0+(s_21.2).toNat) e_39).set (0+((w64 (s_21.2-1))).toNat) e_42))) 0 rfl (og (by simp)) (jY (v':=(dV (ax 0) 2 ((s_21.1.set (0+(s_21.2).toNat) e_39).set (0+((w64 (s_21.2-1))).toNat) e_42))) 37 rfl (og (by simp)) (jY (v':=(dV (ax 0) 2 ((s_21.1.set (0+(s_21.2).toNat) e_39).set (0+((w64 (s_21.2-1))).toNat) e_42))) 39 rfl (og (by simp)) (jY (v':=(dV (ax 0) 2 ((s_21.1.set (0+(s_21.2).toNat) e_39).set (0+((w64 (s_21.2-1))).toNat) e_42))) 42 rfl (og (by simp)) (jY (v':=(dV (ax 0) 2 ((s_21.1.set (0+(s_21.2).toNat) e_39).set (0+((w64 (s_21.2-1))).toNat) e_42))) 47 rfl (og (by simp)) (ah (au (aa (vI s_21.2) (aa (vI (w64 (s_21.2-1))) (aa (vI (w64 (s_21.2-1))) (ah ?_)))))))))))
        obtain rfl:=ae hc_22
        exact aU (k_16,(((s_21.1.set (0+(s_21.2).toNat) e_39).set (0+((w64 (s_21.2-1))).toNat) e_42),(w64 (s_21.2-1)))) hL_23 (ls_ _) rfl (aL rfl)
       ·refine aA rfl hc_37 (aV ?_)
        obtain rfl:=ae hc_22
        obtain rfl:=ae hL_23
        exact aS ((s_21.1,s_21.2)) rfl rfl (aL rfl)
    ·rintro s_21 ho_ sl_ H_ hp_ hq_
     subst ho_
     refine aO _ hp_ hq_ (au (aa (vI s_10.2) (aa (vI (w64 (s_10.2+1))) (aa (vI (w64 (s_10.2+1))) (ah ?_)))))
     obtain rfl:=ae hc_11
     exact aU (k_5,(s_21.1,(w64 (s_10.2+1)))) hL_12 (ls_ _) rfl (aL rfl)
   ·refine aA rfl hc_15 (aV ?_)
    obtain rfl:=ae hc_11
    obtain rfl:=ae hL_12
    exact aS ((s_10.1,s_10.2)) rfl rfl (aL rfl)
 ·rintro s_10 ho_ sl_ H_ hp_ hq_
  subst ho_
  show vX _ _ _ _ _ _ _ _
  obtain rfl:=ae hF
  exact ML (H0:=([((ax 0),gB 2 Run.enc s_10.1)]:Hp)) (sl':=envS []) hq_ (Kv (bs:=([]:List Box)) (os:=([]:List Box)) (xs:=data_1) (o:=gB 2 Run.enc s_10.1) (.inl rfl) [] trivial rfl rfl rfl rfl rfl (by kernel_rfl) Cs rfl)
theorem mE {data_1:(List Run)} {a_2:Int} {b_3:Int} {limit_4:Int} {r:(List Run)} (hF:di data_1 a_2 b_3 limit_4=some r) :
  FnM Tryz.prog 109 [(dV (ax 0) 2 data_1),(vI a_2),(vI b_3),(vI limit_4),(.fn 89 [])] (([]:List Box)++gI 2 Run.enc data_1) (.tup []) (([]:List Box).map some++gT data_1 (gB 2 Run.enc r)):=by
 refine FnM.of_wHv ⟨Tryz.prog,148,[],[]⟩ rfl Tryz.func109 rfl rfl (lb_ rfl) (by kernel_rfl) ?_
 unfold di at hF
 refine ai (aa (vB true) (ah (ai (aa (vB true) (ah ?_)))))
 obtain ⟨o_14,hj_15,hF⟩:=bind_some hF
 obtain ⟨nq_21,hj_15⟩:=dA hj_15
 refine dZ (λ(s_11:Unit)=>[]) (λ(s_11:Unit)=>[((ax 0),gB 2 Run.enc data_1)]) (λ(k_6:Nat)=>(λ(s_11:Unit)=>[(0,(dV (ax 0) 2 data_1)),(1,(vI a_2)),(2,(vI b_3)),(3,(vI limit_4)),(4,(.fn 89 [])),(10,(vB true)),(11,(vB true))])) (λs=>cB b_3 a_2 data_1 limit_4 s) o_14 nq_21 () hj_15 rfl (aL rfl) ?_ ?_
 ·rintro ⟨k_6,s_11⟩ hL_13
  dsimp only at hL_13
  cases k_6 with
  | zero=>cases hL_13
  | succ k_6 =>
   obtain ⟨c_,hc_12,hL_13⟩:=bind_some hL_13
   unfold cB at hc_12
   refine aM (ai (aa (vI b_3) (aa (vI a_2) (aa (vI (w64 (b_3-a_2))) (aa (vI (w64 (b_3-a_2))) (ah (ak (ai (aa (vI (w64 (b_3-a_2))) (aa (vB (decide ((w64 (b_3-a_2))<=12))) (ah ?_)))))))))))
   rcases aj hc_12 with⟨hc_16,hc_12⟩|⟨hc_16,hc_12⟩
   ·refine aB rfl hc_16 (ai (aa (dV (ax 0) 2 data_1) (aa (vI a_2) (aa (vI b_3) (aa (.fn 89 []) ?_)))))
    obtain ⟨r_17,hr_18,hc_12⟩:=bind_some hc_12
    obtain ⟨_,hs_19,hc_12⟩:=bind_some hc_12
    replace hs_19:=qH hs_19
    refine zP 0 [] 0 0 il ft (kC hr_18) rfl hb123 rfl rfl rfl (by kernel_rfl) rfl (.inr (.inl rfl)) rfl (by kernel_rfl) (by kernel_rfl) (by kernel_rfl) (by kernel_rfl) rfl (by decide) (by kernel_rfl) Cs (Ms hs_19) wz ([((ax 0),gB 2 Run.enc r_17)]:Hp) (by kernel_rfl) (jY (v':=(dV (ax 0) 2 r_17)) 0 rfl (og hs_19.symm) (jY (v':=(dV (ax 0) 2 r_17)) 26 rfl (og hs_19.symm) (ah ?_)))
    obtain rfl:=ae hc_12
    obtain rfl:=ae hL_13
    obtain rfl:=ae hF
    exact ay (Kv (bs:=([]:List Box)) (os:=([]:List Box)) (xs:=data_1) (o:=gB 2 Run.enc r_17) (.inr rfl) [] trivial rfl rfl rfl rfl rfl (by kernel_rfl) Cs rfl)
   ·refine aA rfl hc_16 (av (ak (ai (aa (vI limit_4) (aa (vB (limit_4==0)) (ah ?_))))))
    rcases aj hc_12 with⟨hc_20,hc_12⟩|⟨hc_20,hc_12⟩
    ·refine aB rfl hc_20 (ai (aa (dV (ax 0) 2 data_1) (aa (vI a_2) (aa (vI b_3) (aa (.fn 89 []) ?_)))))
     cases hc_12
    ·refine aA rfl hc_20 (av (ak (ai (aa (vB true) (aa (vB false) (ah (aA rfl rfl (av (ai (aa (dV (ax 0) 2 data_1) (aa (vI a_2) (aa (vI b_3) (aa (.fn 89 []) ?_)))))))))))))
     cases hc_12
 ·rintro s_11 ho_ sl_ H_ hp_ hq_
  subst ho_
  show vX _ _ _ _ _ _ _ _
  obtain rfl:=ae hF
  exact ML (H0:=([((ax 0),gB 2 Run.enc data_1)]:Hp)) (sl':=envS []) hq_ (Kv (bs:=([]:List Box)) (os:=([]:List Box)) (xs:=data_1) (o:=gB 2 Run.enc data_1) (.inl rfl) [] trivial rfl rfl rfl rfl rfl (by kernel_rfl) Cs rfl)
theorem kI {x_1:(List Run)} {r:(List Run)} (hF:bZ x_1=some r) :
  FnM Tryz.prog 88 [(dV (ax 0) 2 x_1),(.fn 89 [])] (([]:List Box)++gI 2 Run.enc x_1) (.tup []) (([]:List Box).map some++gT x_1 (gB 2 Run.enc r)):=by
 refine FnM.of_wHv ⟨Tryz.prog,14,[],[]⟩ rfl Tryz.func88 rfl rfl (lb_ rfl) (by kernel_rfl) ?_
 unfold bZ at hF
 refine ai (aa (dV (ax 0) 2 x_1) (K9 y7 rfl wz (aa (vI (x_1.length:Int)) (ah (au (aa (dV (ax 0) 2 x_1) (aa (vI (x_1.length:Int)) (aa (vI (x_1.length:Int)) (kR un3 AL rfl wz ?_)))))))))
 obtain ⟨r_3,hr_4,hF⟩:=bind_some hF
 refine aD (BF hr_4) rfl hb87 rfl rfl rfl rfl wz (aa (.fn 89 []) ?_)
 obtain ⟨r_5,hr_6,hF⟩:=bind_some hF
 obtain ⟨_,hs_7,hF⟩:=bind_some hF
 replace hs_7:=qH hs_7
 refine zP 0 [] 0 0 il ft (mE hr_6) rfl hb109 rfl rfl rfl (by kernel_rfl) rfl (.inr (.inl rfl)) rfl (by kernel_rfl) (by kernel_rfl) (by kernel_rfl) (by kernel_rfl) rfl (by decide) (by kernel_rfl) Cs (Ms hs_7) wz ([((ax 0),gB 2 Run.enc r_5)]:Hp) (by kernel_rfl) (jY (v':=(dV (ax 0) 2 r_5)) 0 rfl (og hs_7.symm) (jY (v':=(dV (ax 0) 2 r_5)) 5 rfl (og hs_7.symm) (jY (v':=(dV (ax 0) 2 r_5)) 7 rfl (og hs_7.symm) (ah ?_))))
 show vX _ _ _ _ _ _ _ _
 obtain rfl:=ae hF
 exact Kv (bs:=([]:List Box)) (os:=([]:List Box)) (xs:=x_1) (o:=gB 2 Run.enc r_5) (.inl rfl) [] trivial rfl rfl rfl rfl rfl (by kernel_rfl) Cs rfl
theorem xD {l_1:(List Rect)} {y_2:Int} {r:(List Run)} (hF:ou l_1 y_2=some r) :
  FnM Tryz.prog 66 [(vL Rect.enc l_1),(vI y_2)] [] (vL Run.enc r) []:=by
 refine FnM.of_wH ⟨Tryz.prog,84,[],[]⟩ rfl Tryz.func66 rfl rfl (lb_ rfl) (by kernel_rfl) ?_
 unfold ou at hF
 refine ai (aa .nil (ah (ai (aa .nil (ah (ak (ai (aa (vL Rect.enc l_1) (bR Be rfl wz (aa (vI 0) (ah (pO (λn_9 => ?_)))))))))))))
 obtain ⟨o_14,hj_15,hF⟩:=bind_some hF
 obtain ⟨hn_7,hj_15⟩:=bf hj_15
 refine iP (σ:=(List Run)) (N:=Nm) (λp=>(λ(s_8:List Run) (n_11:Nm)=>([(5,(gV n_11 2 s_8))]:SL_)) p.1 p.2) (λp=>(λ(s_8:List Run) (n_11:Nm)=>([(n_11,gB 2 Run.enc s_8)]:Hp)) p.1 p.2) (λ(k_3:Nat)=>(λp=>(λ(s_8:List Run) (n_11:Nm)=>([(1,(vI y_2)),(5,(gV n_11 2 s_8)),(12,(vL Rect.enc l_1)),(13,(vI (l_1.length:Int))),(14,(vI (k_3:Int)))]:SL_)) p.1 p.2)) (λk x s=>oQ y_2 k x s) o_14 l_1 (([]:List Run),n_9) hj_15 rfl (aL rfl) ?_ ?_
 ·rintro ⟨k_3,l_4,s_8,n_11⟩ ⟨hL_13,hD_6⟩
  dsimp only at hL_13 hD_6
  cases l_4 with
  | nil =>
   obtain rfl:=ae hL_13
   refine ai (aa (vB (decide ((k_3:Int)<(l_1.length:Int)))) (ah ?_))
   refine ak (aA rfl (drop_nil hD_6) (aV ?_))
   exact aS (s_8,n_11) rfl rfl (aL rfl)
  | cons x_5 l_4 =>
   obtain ⟨c_,hc_12,hL_13⟩:=bind_some hL_13
   refine ai (aa (vB (decide ((k_3:Int)<(l_1.length:Int)))) (ah ?_))
   refine ak (aB rfl (bv hD_6) (av ?_))
   unfold oQ at hc_12
   refine ak (aM (ai (dD HZ rfl rfl (bI hD_6) rfl wz (bE xI Ja rfl (.d (.agg (Rect.enc x_5))) rfl wz (dB 0 (.inl rfl) z66 rfl wz (λn_16=>fE 0 il ft 1 xI rfl rfl (Rect.v x_5) rfl wz (ah (ak ?_))))))))
   obtain ⟨v_17,h_18,hc_12⟩:=bind_some hc_12
   refine aQ [(1,(vI y_2)),(5,(gV n_11 2 s_8)),(7,(.ref n_16 0 0)),(12,(vL Rect.enc l_1)),(13,(vI (l_1.length:Int))),(14,(vI (k_3:Int))),(30,(vB v_17))] [(n_11,gB 2 Run.enc s_8),(n_16,some (.cells 4 (Rect.v x_5)))] ?_ ?_
   ·refine au (aH xJ rfl 1 rfl wz (aF 0 1 il ft sz3 ag3 rfl rfl (vI x_5.Y) rfl wz (aa (vI y_2) (aa (vB (decide (x_5.Y<=y_2))) ?_))))
    rcases aj h_18 with⟨hc_19,h_18⟩|⟨hc_19,h_18⟩
    ·refine aC rfl hc_19 wz (aG (vI y_2) wa rfl (aH xJ rfl 1 rfl wa (aF 0 1 il ft sz3 ag3 rfl rfl (vI x_5.Y) rfl wa (aH Fs rfl 3 rfl wa (aF 0 1 il ft sz3 ag3 rfl rfl (vI x_5.H) rfl wa (aG (vI (w64 (x_5.Y+x_5.H))) wa rfl (aG (vB (decide (y_2<(w64 (x_5.Y+x_5.H))))) wa rfl (aa (vB (decide (y_2<(w64 (x_5.Y+x_5.H))))) (ah ?_)))))))))
     obtain rfl:=ae h_18
     exact cu
    ·refine aC rfl hc_19 wz (af (af (af (af (af (af (af (aa (vB false) (ah ?_)))))))))
     obtain rfl:=ae h_18
     exact cu
   ·rintro ⟨⟩ _ sl_ H_ hp_ hq_
    refine aO _ hp_ hq_ ?_
    obtain ⟨v_20,h_21,hc_12⟩:=bind_some hc_12
    refine kW (β:=Nm) (λ(n_22:Nm)=>([(1,(vI y_2)),(5,(gV n_22 2 v_20)),(12,(vL Rect.enc l_1)),(13,(vI (l_1.length:Int))),(14,(vI (k_3:Int)))]:SL_)) (λ(n_22:Nm)=>([(n_22,gB 2 Run.enc v_20),(n_16,some (.cells 4 (Rect.v x_5)))]:Hp)) (λ_=>True) ?_ ?_
    ·rcases aj h_21 with⟨hc_23,h_21⟩|⟨hc_23,h_21⟩
     ·refine aB rfl hc_23 (au (aa (gV n_11 2 s_8) (aH BN rfl 0 rfl wz (aF 0 1 il ft sz3 ag3 rfl rfl (vI x_5.X) rfl wz (aH BN rfl 0 rfl wz (aF 0 1 il ft sz3 ag3 rfl rfl (vI x_5.X) rfl wz (aH Ih rfl 2 rfl wz (aF 0 1 il ft sz3 ag3 rfl rfl (vI x_5.W) rfl wz (aa (vI (w64 (x_5.X+x_5.W))) (aG (.d (.agg (Run.enc (⟨x_5.X,(w64 (x_5.X+x_5.W))⟩:Run)))) wz (by kernel_rfl) (gm (([(⟨x_5.X,(w64 (x_5.X+x_5.W))⟩:Run)]:List Run).map Run.enc) l7 LW rfl rfl rfl rfl rfl wz ?_)))))))))))
      obtain ⟨a_24,hz_25,h_21⟩:=bind_some h_21
      refine nO 0 il ft (i:=0) Cm Cm oo z131 rfl (by decide) LY (by decide) (λ_=>rfl) rfl rfl rfl hz_25 wz (λn_26=>aa (gV n_26 2 a_24) (ah ?_))
      obtain rfl:=ae h_21
      exact aS n_26 trivial rfl (aL rfl)
     ·refine aA rfl hc_23 (av ?_)
      obtain rfl:=ae h_21
      exact aS n_11 trivial rfl (aL rfl)
    ·rintro n_22 _ sl_ H_ hp_ hq_
     refine aO _ hp_ hq_ (au (dS (bC hD_6 hn_7) wz rfl (aa (vI ((k_3+1:Nat):Int)) (ah ?_))))
     obtain rfl:=ae hc_12
     exact aU (k_3+1,l_4,v_20,n_22) ⟨hL_13,aX hD_6⟩ (ls_ _) rfl (aL rfl)
 ·rintro ⟨s_8,n_11⟩ ho_ sl_ H_ hp_ hq_
  subst ho_
  refine aO _ hp_ hq_ (ai (aa (gV n_11 2 s_8) ?_))
  obtain ⟨r_27,hr_28,hF⟩:=bind_some hF
  obtain ⟨_,hs_29,hF⟩:=bind_some hF
  replace hs_29:=qH hs_29
  refine zP 0 [] 0 0 il ft (kI hr_28) rfl hb88 rfl rfl rfl (by kernel_rfl) rfl (.inl rfl) rfl (by kernel_rfl) (by kernel_rfl) (by kernel_rfl) (by kernel_rfl) rfl (by decide) (by kernel_rfl) Cs (Ms hs_29) wz ([(n_11,gB 2 Run.enc r_27)]:Hp) (by kernel_rfl) (jY (v':=(gV n_11 2 r_27)) 43 rfl (sK hs_29.symm) (jY (v':=(gV n_11 2 r_27)) 5 rfl (sK hs_29.symm) (ah (ai (aa .nil (ah (ak (ai (aa (gV n_11 2 r_27) (Iz y7 rfl wz (aa (vI 0) (ah (jN 0 rfl (gq 5 0 rfl rfl (gq 43 0 rfl rfl (gq 45 0 rfl rfl (pO (λn_36 => ?_))))))))))))))))))
  obtain ⟨o_41,hj_42,hF⟩:=bind_some hF
  obtain ⟨hn_34,hj_42⟩:=bf hj_42
  refine iP (σ:=(List Run)) (N:=Nm) (λp=>(λ(s_35:List Run) (n_38:Nm)=>([(8,(gV n_38 2 s_35))]:SL_)) p.1 p.2) (λp=>(λ(s_35:List Run) (n_38:Nm)=>([(n_11,gF 2 Run.enc r_27),(n_38,gB 2 Run.enc s_35)]:Hp)) p.1 p.2) (λ(k_30:Nat)=>(λp=>(λ(s_35:List Run) (n_38:Nm)=>([(8,(gV n_38 2 s_35)),(45,(vL Run.enc r_27)),(46,(vI (r_27.length:Int))),(47,(vI (k_30:Int)))]:SL_)) p.1 p.2)) (λk x s=>o5 k x s) o_41 r_27 (([]:List Run),n_36) hj_42 rfl (aL rfl) ?_ ?_
  ·rintro ⟨k_30,l_31,s_35,n_38⟩ ⟨hL_40,hD_33⟩
   dsimp only at hL_40 hD_33
   cases l_31 with
   | nil =>
    obtain rfl:=ae hL_40
    refine ai (aa (vB (decide ((k_30:Int)<(r_27.length:Int)))) (ah ?_))
    refine ak (aA rfl (drop_nil hD_33) (aV ?_))
    exact aS (s_35,n_38) rfl rfl (aL rfl)
   | cons x_32 l_31 =>
    obtain ⟨c_,hc_39,hL_40⟩:=bind_some hL_40
    refine ai (aa (vB (decide ((k_30:Int)<(r_27.length:Int)))) (ah ?_))
    refine ak (aB rfl (bv hD_33) (av ?_))
    unfold o5 at hc_39
    refine ak (aM (ai (dD l7 rfl rfl (bI hD_33) rfl wz (bE oo xU rfl (.d (.agg (Run.enc x_32))) rfl wz (dB 0 (.inl rfl) z131 rfl wz (λn_43=>fE 0 il ft 2 oo rfl rfl [(vI x_32.f_from),(vI x_32.f_to)] rfl wz (ah (ai (aa (gV n_38 2 s_35) (Iz y7 rfl wz (aa (vI (w64 ((s_35.length:Int)-1))) (aa (vI (w64 ((s_35.length:Int)-1))) (ah (ak ?_))))))))))))))
    obtain ⟨v_44,h_45,hc_39⟩:=bind_some hc_39
    refine aQ [(8,(gV n_38 2 s_35)),(10,(.ref n_43 0 0)),(11,(vI (w64 ((s_35.length:Int)-1)))),(45,(vL Run.enc r_27)),(46,(vI (r_27.length:Int))),(47,(vI (k_30:Int))),(65,(vB v_44))] [(n_11,gF 2 Run.enc r_27),(n_38,gB 2 Run.enc s_35),(n_43,some (.cells 2 [(vI x_32.f_from),(vI x_32.f_to)]))] ?_ ?_
    ·refine bB (aa (vI (w64 ((s_35.length:Int)-1))) (aa (vB (decide ((w64 ((s_35.length:Int)-1))>=0))) ?_))
     rcases aj h_45 with⟨hc_46,h_45⟩|⟨hc_46,h_45⟩
     ·refine aC rfl hc_46 wz (aH lM rfl 0 rfl wa (aF 4 2 (.inr (by kernel_rfl)) (λ_ _ ag=>trivial) sz3 ag3 rfl rfl (vI x_32.f_from) rfl wa (aG (gV n_38 2 s_35) wa rfl (aG (vI (w64 ((s_35.length:Int)-1))) wa rfl ?_))))
      obtain ⟨_,hi_47,h_45⟩:=bind_some h_45
      refine j5 l7 rfl rfl (gZ hi_47) (ek hi_47) wa (aH rP rfl 1 rfl wa ?_)
      obtain ⟨e_48,hy_49,h_45⟩:=bind_some h_45
      refine uj 9 1 (.inr (by kernel_rfl)) (λ_ _ ag=>⟨.inl ⟨rfl,rfl⟩,trivial⟩) sz3 ag3 rfl rfl hy_49 (vI e_48.f_to) rfl wa (aG (vB (decide (x_32.f_from<=e_48.f_to))) wa rfl (aa (vB (decide (x_32.f_from<=e_48.f_to))) (ah ?_)))
      obtain rfl:=ae h_45
      exact cu
     ·refine aC rfl hc_46 wz (af (af (af (af (af (af (af (af (aa (vB false) (ah ?_))))))))))
      obtain rfl:=ae h_45
      exact cu
    ·rintro ⟨⟩ _ sl_ H_ hp_ hq_
     refine aO _ hp_ hq_ ?_
     obtain ⟨v_50,h_51,hc_39⟩:=bind_some hc_39
     refine kW (β:=Nm) (λ(n_52:Nm)=>([(8,(gV n_52 2 v_50)),(45,(vL Run.enc r_27)),(46,(vI (r_27.length:Int))),(47,(vI (k_30:Int)))]:SL_)) (λ(n_52:Nm)=>([(n_11,gF 2 Run.enc r_27),(n_52,gB 2 Run.enc v_50),(n_43,some (.cells 2 [(vI x_32.f_from),(vI x_32.f_to)]))]:Hp)) (λ_=>True) ?_ ?_
     ·rcases aj h_51 with⟨hc_53,h_51⟩|⟨hc_53,h_51⟩
      ·refine aB rfl hc_53 (bB (aa (gV n_38 2 s_35) (aa (vI (w64 ((s_35.length:Int)-1))) (aa (gV n_38 2 s_35) (aa (vI (w64 ((s_35.length:Int)-1))) ?_)))))
       obtain ⟨_,hi_54,h_51⟩:=bind_some h_51
       refine j5 l7 rfl rfl (gZ hi_54) (ek hi_54) wz (aH rP rfl 1 rfl wz ?_)
       obtain ⟨e_55,hy_56,h_51⟩:=bind_some h_51
       refine uj 6 1 (.inr (by kernel_rfl)) (λ_ _ ag=>trivial) sz3 ag3 rfl rfl hy_56 (vI e_55.f_to) rfl wz (aH rP rfl 1 rfl wz (aF 8 2 (.inr (by kernel_rfl)) (λ_ _ ag=>⟨.inl ⟨rfl,rfl⟩,trivial⟩) sz3 ag3 rfl rfl (vI x_32.f_to) rfl wz (sW (vI (uW e_55.f_to x_32.f_to)) rfl (.inr rfl) wz ?_)))
       obtain ⟨_,hi_57,h_51⟩:=bind_some h_51
       refine j5 l7 rfl rfl (gZ hi_57) (ek hi_57) wz (aH rP rfl 1 rfl wz ?_)
       obtain ⟨e_58,hy_59,h_51⟩:=bind_some h_51
       refine D7 12 (.inr (by kernel_rfl)) (λ_ _ ag=>⟨.inr (.inr (by kernel_rfl)),⟨.inr (.inr (by kernel_rfl)),trivial⟩⟩) 1 sz3 rfl rfl hy_59 (⟨e_58.f_from,(uW e_55.f_to x_32.f_to)⟩:Run) rfl wz (jY (v':=(gV n_38 2 (s_35.set (0+((w64 ((s_35.length:Int)-1))).toNat) (⟨e_58.f_from,(uW e_55.f_to x_32.f_to)⟩:Run)))) 8 rfl (sK (by simp)) (jY (v':=(gV n_38 2 (s_35.set (0+((w64 ((s_35.length:Int)-1))).toNat) (⟨e_58.f_from,(uW e_55.f_to x_32.f_to)⟩:Run)))) 66 rfl (sK (by simp)) (jY (v':=(gV n_38 2 (s_35.set (0+((w64 ((s_35.length:Int)-1))).toNat) (⟨e_58.f_from,(uW e_55.f_to x_32.f_to)⟩:Run)))) 68 rfl (sK (by simp)) (ah ?_))))
       obtain rfl:=ae h_51
       exact aS n_38 trivial rfl (aL rfl)
      ·refine aA rfl hc_53 (au (aa (gV n_38 2 s_35) (aF 0 2 il ft oo xU rfl rfl (.d (.agg (Run.enc x_32))) rfl wz (gm (([x_32]:List Run).map Run.enc) l7 LW rfl rfl rfl rfl rfl wz ?_))))
       obtain ⟨a_60,hz_61,h_51⟩:=bind_some h_51
       refine nO 0 il ft (i:=1) Cm Cm oo z131 rfl (by decide) LY (by decide) (λ_=>rfl) rfl rfl rfl hz_61 wz (λn_62=>aa (gV n_62 2 a_60) (ah ?_))
       obtain rfl:=ae h_51
       exact aS n_62 trivial rfl (aL rfl)
     ·rintro n_52 _ sl_ H_ hp_ hq_
      refine aO _ hp_ hq_ (au (dS (bC hD_33 hn_34) wz rfl (aa (vI ((k_30+1:Nat):Int)) (ah ?_))))
      obtain rfl:=ae hc_39
      exact aU (k_30+1,l_31,v_50,n_52) ⟨hL_40,aX hD_33⟩ (ls_ _) rfl (aL rfl)
  ·rintro ⟨s_35,n_38⟩ ho_ sl_ H_ hp_ hq_
   subst ho_
   refine aO _ hp_ hq_ (ai (aa (gV n_38 2 s_35) (aa (gV n_38 2 s_35) (ah (jN 1 rfl (gq 4 1 rfl rfl (gq 8 1 rfl rfl (gq 83 1 rfl rfl ?_))))))))
   obtain rfl:=ae hF
   exact ay (aK [(vL Run.enc s_35)] ⟨rfl,trivial⟩)
theorem DI {l_1:(List Run)} {m_2:(List Run)} {r:(List Run)} (hF:qC l_1 m_2=some r) :
  FnM Tryz.prog 65 [(vL Run.enc l_1),(vL Run.enc m_2)] [] (vL Run.enc r) []:=by
 refine FnM.of_wH ⟨Tryz.prog,88,[],[]⟩ rfl Tryz.func65 rfl rfl (lb_ rfl) (by kernel_rfl) ?_
 unfold qC at hF
 refine ai (aa .nil (ah (ai (aa .nil (ah (ai (aa (vI 0) (ah (ak (ai (aa (vL Run.enc l_1) (bR y7 rfl wz (aa (vI 0) (ah (pO (λn_9 => ?_))))))))))))))))
 obtain ⟨o_14,hj_15,hF⟩:=bind_some hF
 obtain ⟨hn_7,hj_15⟩:=bf hj_15
 refine iP (σ:=(List Run)×Int) (N:=Nm) (λp=>(λ(s_8:(List Run)×Int) (n_11:Nm)=>([(5,(gV n_11 2 s_8.1))]:SL_)) p.1 p.2) (λp=>(λ(s_8:(List Run)×Int) (n_11:Nm)=>([(n_11,gB 2 Run.enc s_8.1)]:Hp)) p.1 p.2) (λ(k_3:Nat)=>(λp=>(λ(s_8:(List Run)×Int) (n_11:Nm)=>([(1,(vL Run.enc m_2)),(5,(gV n_11 2 s_8.1)),(6,(vI s_8.2)),(10,(vL Run.enc l_1)),(11,(vI (l_1.length:Int))),(12,(vI (k_3:Int)))]:SL_)) p.1 p.2)) (λk x s=>mD m_2 k x s) o_14 l_1 ((([]:List Run),0),n_9) hj_15 rfl (aL rfl) ?_ ?_
 ·rintro ⟨k_3,l_4,s_8,n_11⟩ ⟨hL_13,hD_6⟩
  dsimp only at hL_13 hD_6
  cases l_4 with
  | nil =>
   obtain rfl:=ae hL_13
   refine ai (aa (vB (decide ((k_3:Int)<(l_1.length:Int)))) (ah ?_))
   refine ak (aA rfl (drop_nil hD_6) (aV ?_))
   exact aS (s_8,n_11) rfl rfl (aL rfl)
  | cons x_5 l_4 =>
   obtain ⟨c_,hc_12,hL_13⟩:=bind_some hL_13
   refine ai (aa (vB (decide ((k_3:Int)<(l_1.length:Int)))) (ah ?_))
   refine ak (aB rfl (bv hD_6) (av ?_))
   unfold mD at hc_12
   refine ak (aM (ai (dD l7 rfl rfl (bI hD_6) rfl wz (bE oo xU rfl (.d (.agg (Run.enc x_5))) rfl wz (dB 0 (.inl rfl) z131 rfl wz (λn_16=>fE 0 il ft 1 oo rfl rfl [(vI x_5.f_from),(vI x_5.f_to)] rfl wz (ah (ak ?_))))))))
   obtain ⟨o_25,hj_26,hc_12⟩:=bind_some hc_12
   obtain ⟨nq_72,hj_26⟩:=dA hj_26
   refine dZ (λ(s_22:Int)=>[(1,(vL Run.enc m_2)),(5,(gV n_11 2 s_8.1)),(6,(vI s_22)),(8,(.ref n_16 0 0)),(10,(vL Run.enc l_1)),(11,(vI (l_1.length:Int))),(12,(vI (k_3:Int)))]) (λ(s_22:Int)=>[(n_11,gB 2 Run.enc s_8.1),(n_16,some (.cells 2 [(vI x_5.f_from),(vI x_5.f_to)]))]) (λ(k_17:Nat)=>(λ(s_22:Int)=>[(1,(vL Run.enc m_2)),(5,(gV n_11 2 s_8.1)),(6,(vI s_22)),(8,(.ref n_16 0 0)),(10,(vL Run.enc l_1)),(11,(vI (l_1.length:Int))),(12,(vI (k_3:Int)))])) (λs=>oL m_2 x_5 s) o_25 nq_72 s_8.2 hj_26 rfl (aL rfl) ?_ ?_
   ·rintro ⟨k_17,s_22⟩ hL_24
    dsimp only at hL_24
    cases k_17 with
    | zero=>cases hL_24
    | succ k_17 =>
     obtain ⟨c_,hc_23,hL_24⟩:=bind_some hL_24
     unfold oL at hc_23
     refine ak (ak ?_)
     obtain ⟨v_27,h_28,hc_23⟩:=bind_some hc_23
     refine aQ [(1,(vL Run.enc m_2)),(5,(gV n_11 2 s_8.1)),(6,(vI s_22)),(8,(.ref n_16 0 0)),(10,(vL Run.enc l_1)),(11,(vI (l_1.length:Int))),(12,(vI (k_3:Int))),(29,(vB v_27))] [(n_11,gB 2 Run.enc s_8.1),(n_16,some (.cells 2 [(vI x_5.f_from),(vI x_5.f_to)]))] ?_ ?_
     ·refine bB (aa (vI s_22) (aa (vL Run.enc m_2) (bR y7 rfl wz (aa (vB (decide (s_22<(m_2.length:Int)))) ?_))))
      rcases aj h_28 with⟨hc_29,h_28⟩|⟨hc_29,h_28⟩
      ·refine aC rfl hc_29 wz (aG (vL Run.enc m_2) wa rfl (aG (vI s_22) wa rfl ?_))
       obtain ⟨y_30,hy_31,h_28⟩:=bind_some h_28
       refine dD l7 rfl rfl hy_31 rfl wa (oz rP rfl [.int .i64 y_30.f_to] rfl rfl wa (bE sz3 ag3 rfl (vI y_30.f_to) rfl wa (aH lM rfl 0 rfl wa (aF 11 1 (.inr (by kernel_rfl)) (λ_ _ ag=>trivial) sz3 ag3 rfl rfl (vI x_5.f_from) rfl wa (aG (vB (decide (y_30.f_to<=x_5.f_from))) wa rfl (aa (vB (decide (y_30.f_to<=x_5.f_from))) (ah ?_)))))))
       obtain rfl:=ae h_28
       exact cu
      ·refine aC rfl hc_29 wz (af (af (af (af (af (af (af (af (aa (vB false) (ah ?_))))))))))
       obtain rfl:=ae h_28
       exact cu
     ·rintro ⟨⟩ _ sl_ H_ hp_ hq_
      refine aO _ hp_ hq_ ?_
      rcases aj hc_23 with⟨hc_32,hc_23⟩|⟨hc_32,hc_23⟩
      ·refine aB rfl hc_32 (av (aM (au (aa (vI s_22) (aa (vI (w64 (s_22+1))) (aa (vI (w64 (s_22+1))) (ah ?_)))))))
       obtain rfl:=ae hc_23
       exact aU (k_17,(w64 (s_22+1))) hL_24 (ls_ _) rfl (aL rfl)
      ·refine aA rfl hc_32 (aV ?_)
       obtain rfl:=ae hc_23
       obtain rfl:=ae hL_24
       exact aS (s_22) rfl rfl (aL rfl)
   ·rintro s_22 ho_ sl_ H_ hp_ hq_
    subst ho_
    refine aO _ hp_ hq_ (ak (ai (aa (vI s_22) (aa (vI s_22) (ah ?_)))))
    obtain ⟨o_43,hj_44,hc_12⟩:=bind_some hc_12
    obtain ⟨nq_71,hj_44⟩:=dA hj_44
    refine Fj (σ:=(List Run)×Int×Int) (N:=Nm) (λp=>(λ(s_38:(List Run)×Int×Int) (n_40:Nm)=>([(1,(vL Run.enc m_2)),(5,(gV n_40 2 s_38.1)),(6,(vI s_22)),(8,(.ref n_16 0 0)),(10,(vL Run.enc l_1)),(11,(vI (l_1.length:Int))),(12,(vI (k_3:Int)))]:SL_)) p.1 p.2) (λp=>(λ(s_38:(List Run)×Int×Int) (n_40:Nm)=>([(n_40,gB 2 Run.enc s_38.1),(n_16,some (.cells 2 [(vI s_38.2.2),(vI x_5.f_to)]))]:Hp)) p.1 p.2) (λ(k_33:Nat)=>(λp=>(λ(s_38:(List Run)×Int×Int) (n_40:Nm)=>([(1,(vL Run.enc m_2)),(5,(gV n_40 2 s_38.1)),(6,(vI s_22)),(8,(.ref n_16 0 0)),(9,(vI s_38.2.1)),(10,(vL Run.enc l_1)),(11,(vI (l_1.length:Int))),(12,(vI (k_3:Int)))]:SL_)) p.1 p.2)) (λs=>oZ m_2 x_5 s) o_43 nq_71 ((s_8.1,s_22,x_5.f_from),n_11) hj_44 rfl (aL rfl) ?_ ?_
    ·rintro ⟨k_33,s_38,n_40⟩ hL_42
     dsimp only at hL_42
     cases k_33 with
     | zero=>cases hL_42
     | succ k_33 =>
      obtain ⟨c_,hc_41,hL_42⟩:=bind_some hL_42
      unfold oZ at hc_41
      refine ak (ak ?_)
      obtain ⟨v_45,h_46,hc_41⟩:=bind_some hc_41
      refine aQ [(1,(vL Run.enc m_2)),(5,(gV n_40 2 s_38.1)),(6,(vI s_22)),(8,(.ref n_16 0 0)),(9,(vI s_38.2.1)),(10,(vL Run.enc l_1)),(11,(vI (l_1.length:Int))),(12,(vI (k_3:Int))),(46,(vB v_45))] [(n_40,gB 2 Run.enc s_38.1),(n_16,some (.cells 2 [(vI s_38.2.2),(vI x_5.f_to)]))] ?_ ?_
      ·refine bB (aa (vI s_38.2.1) (aa (vL Run.enc m_2) (bR y7 rfl wz (aa (vB (decide (s_38.2.1<(m_2.length:Int)))) ?_))))
       rcases aj h_46 with⟨hc_47,h_46⟩|⟨hc_47,h_46⟩
       ·refine aC rfl hc_47 wz (aG (vL Run.enc m_2) wa rfl (aG (vI s_38.2.1) wa rfl ?_))
        obtain ⟨y_48,hy_49,h_46⟩:=bind_some h_46
        refine dD l7 rfl rfl hy_49 rfl wa (oz lM rfl [.int .i64 y_48.f_from,.int .i64 y_48.f_to] rfl rfl wa (bE sz3 ag3 rfl (vI y_48.f_from) rfl wa (aH rP rfl 1 rfl wa (aF 11 1 (.inr (by kernel_rfl)) (λ_ _ ag=>trivial) sz3 ag3 rfl rfl (vI x_5.f_to) rfl wa (aG (vB (decide (y_48.f_from<x_5.f_to))) wa rfl (aa (vB (decide (y_48.f_from<x_5.f_to))) (ah ?_)))))))
        obtain rfl:=ae h_46
        exact cu
       ·refine aC rfl hc_47 wz (af (af (af (af (af (af (af (af (aa (vB false) (ah ?_))))))))))
        obtain rfl:=ae h_46
        exact cu
      ·rintro ⟨⟩ _ sl_ H_ hp_ hq_
       refine aO _ hp_ hq_ ?_
       rcases aj hc_41 with⟨hc_50,hc_41⟩|⟨hc_50,hc_41⟩
       ·refine aB rfl hc_50 (av (ak (aM (ak (ak (bB (aa (vL Run.enc m_2) (aa (vI s_38.2.1) ?_))))))))
        obtain ⟨y_51,hy_52,hc_41⟩:=bind_some hc_41
        refine dD l7 rfl rfl hy_52 rfl wz (oz lM rfl [.int .i64 y_51.f_from,.int .i64 y_51.f_to] rfl rfl wz (bE sz3 ag3 rfl (vI y_51.f_from) rfl wz (aH lM rfl 0 rfl wz (aF 6 1 (.inr (by kernel_rfl)) (λ_ _ ag=>trivial) sz3 ag3 rfl rfl (vI s_38.2.2) rfl wz (aa (vB (decide (y_51.f_from>s_38.2.2))) (ah ?_))))))
        obtain ⟨v_53,h_54,hc_41⟩:=bind_some hc_41
        refine kW (β:=Nm) (λ(n_55:Nm)=>([(1,(vL Run.enc m_2)),(5,(gV n_55 2 v_53)),(6,(vI s_22)),(8,(.ref n_16 0 0)),(9,(vI s_38.2.1)),(10,(vL Run.enc l_1)),(11,(vI (l_1.length:Int))),(12,(vI (k_3:Int)))]:SL_)) (λ(n_55:Nm)=>([(n_55,gB 2 Run.enc v_53),(n_16,some (.cells 2 [(vI s_38.2.2),(vI x_5.f_to)]))]:Hp)) (λ_=>True) ?_ ?_
        ·rcases aj h_54 with⟨hc_56,h_54⟩|⟨hc_56,h_54⟩
         ·refine aB rfl hc_56 (bB (aa (gV n_40 2 s_38.1) (aH lM rfl 0 rfl wz (aF 2 1 (.inr (by kernel_rfl)) (λ_ _ ag=>trivial) sz3 ag3 rfl rfl (vI s_38.2.2) rfl wz (aa (vL Run.enc m_2) (aa (vI s_38.2.1) ?_))))))
          obtain ⟨y_57,hy_58,h_54⟩:=bind_some h_54
          refine dD l7 rfl rfl hy_58 rfl wz (oz lM rfl [.int .i64 y_57.f_from,.int .i64 y_57.f_to] rfl rfl wz (bE sz3 ag3 rfl (vI y_57.f_from) rfl wz (aG (.d (.agg (Run.enc (⟨s_38.2.2,y_57.f_from⟩:Run)))) wz (by kernel_rfl) (gm (([(⟨s_38.2.2,y_57.f_from⟩:Run)]:List Run).map Run.enc) l7 LW rfl rfl rfl rfl rfl wz ?_))))
          obtain ⟨a_59,hz_60,h_54⟩:=bind_some h_54
          refine nO 10 (.inr (by kernel_rfl)) (λ_ _ ag=>⟨.inr (.inr (by kernel_rfl)),trivial⟩) (i:=0) Cm Cm oo z131 rfl (by decide) LY (by decide) (λ_=>rfl) rfl rfl rfl hz_60 wz (λn_61=>aa (gV n_61 2 a_59) (ah ?_))
          obtain rfl:=ae h_54
          exact aS n_61 trivial rfl (aL rfl)
         ·refine aA rfl hc_56 (av ?_)
          obtain rfl:=ae h_54
          exact aS n_40 trivial rfl (aL rfl)
        ·rintro n_55 _ sl_ H_ hp_ hq_
         refine aO _ hp_ hq_ (bB (aH lM rfl 0 rfl wz (aF 1 1 (.inr (by kernel_rfl)) (λ_ _ ag=>trivial) sz3 ag3 rfl rfl (vI s_38.2.2) rfl wz (aa (vL Run.enc m_2) (aa (vI s_38.2.1) ?_)))))
         obtain ⟨y_62,hy_63,hc_41⟩:=bind_some hc_41
         refine dD l7 rfl rfl hy_63 rfl wz (oz rP rfl [.int .i64 y_62.f_to] rfl rfl wz (bE sz3 ag3 rfl (vI y_62.f_to) rfl wz (sW (vI (uW s_38.2.2 y_62.f_to)) rfl (.inr rfl) wz (aH lM rfl 0 rfl wz (fE 9 (.inr (by kernel_rfl)) (λ_ _ ag=>⟨.inr (.inr (by kernel_rfl)),trivial⟩) 1 sz3 rfl rfl [(vI (uW s_38.2.2 y_62.f_to)),(vI x_5.f_to)] rfl wz (ah (au (aa (vI s_38.2.1) (aa (vI (w64 (s_38.2.1+1))) (aa (vI (w64 (s_38.2.1+1))) (ah ?_)))))))))))
         obtain rfl:=ae hc_41
         exact aU (k_33,(v_53,(w64 (s_38.2.1+1)),(uW s_38.2.2 y_62.f_to)),n_55) hL_42 (ls_ _) rfl (aL rfl)
       ·refine aA rfl hc_50 (aV ?_)
        obtain rfl:=ae hc_41
        obtain rfl:=ae hL_42
        exact aS ((s_38.1,s_38.2.1,s_38.2.2),n_40) rfl rfl (aL rfl)
    ·rintro ⟨s_38,n_40⟩ ho_ sl_ H_ hp_ hq_
     subst ho_
     refine aO _ hp_ hq_ (ai (aH lM rfl 0 rfl wz (aF 0 1 il ft sz3 ag3 rfl rfl (vI s_38.2.2) rfl wz (aH rP rfl 1 rfl wz (aF 0 1 il ft sz3 ag3 rfl rfl (vI x_5.f_to) rfl wz (aa (vB (decide (s_38.2.2<x_5.f_to))) (ah ?_)))))))
     obtain ⟨v_64,h_65,hc_12⟩:=bind_some hc_12
     refine kW (β:=Nm) (λ(n_66:Nm)=>([(1,(vL Run.enc m_2)),(5,(gV n_66 2 v_64)),(6,(vI s_22)),(10,(vL Run.enc l_1)),(11,(vI (l_1.length:Int))),(12,(vI (k_3:Int)))]:SL_)) (λ(n_66:Nm)=>([(n_66,gB 2 Run.enc v_64),(n_16,some (.cells 2 [(vI s_38.2.2),(vI x_5.f_to)]))]:Hp)) (λ_=>True) ?_ ?_
     ·rcases aj h_65 with⟨hc_67,h_65⟩|⟨hc_67,h_65⟩
      ·refine aB rfl hc_67 (au (aa (gV n_40 2 s_38.1) (aF 0 1 il ft oo xU rfl rfl (.d (.agg (Run.enc (⟨s_38.2.2,x_5.f_to⟩:Run)))) rfl wz (gm (([(⟨s_38.2.2,x_5.f_to⟩:Run)]:List Run).map Run.enc) l7 LW rfl rfl rfl rfl rfl wz ?_))))
       obtain ⟨a_68,hz_69,h_65⟩:=bind_some h_65
       refine nO 0 il ft (i:=0) Cm Cm oo z131 rfl (by decide) LY (by decide) (λ_=>rfl) rfl rfl rfl hz_69 wz (λn_70=>aa (gV n_70 2 a_68) (ah ?_))
       obtain rfl:=ae h_65
       exact aS n_70 trivial rfl (aL rfl)
      ·refine aA rfl hc_67 (av ?_)
       obtain rfl:=ae h_65
       exact aS n_40 trivial rfl (aL rfl)
     ·rintro n_66 _ sl_ H_ hp_ hq_
      refine aO _ hp_ hq_ (au (dS (bC hD_6 hn_7) wz rfl (aa (vI ((k_3+1:Nat):Int)) (ah ?_))))
      obtain rfl:=ae hc_12
      exact aU (k_3+1,l_4,(v_64,s_22),n_66) ⟨hL_13,aX hD_6⟩ (ls_ _) rfl (aL rfl)
 ·rintro ⟨s_8,n_11⟩ ho_ sl_ H_ hp_ hq_
  subst ho_
  refine aO _ hp_ hq_ (ai (aa (gV n_11 2 s_8.1) (aa (gV n_11 2 s_8.1) (ah (jN 0 rfl (gq 4 0 rfl rfl (gq 5 0 rfl rfl (gq 87 0 rfl rfl ?_))))))))
  obtain rfl:=ae hF
  exact ay (aK [(vL Run.enc s_8.1)] ⟨rfl,trivial⟩)
theorem mO {s1_1:(List Run)} {s2_2:(List Run)} {r:Bool} (hF:dK s1_1 s2_2=some r) :
  FnM Tryz.prog 67 [(vL Run.enc s1_1),(vL Run.enc s2_2)] [] (vB r) []:=by
 refine FnM.of_wH ⟨Tryz.prog,26,[],[]⟩ rfl Tryz.func67 rfl rfl (lb_ rfl) (by kernel_rfl) ?_
 unfold dK at hF
 refine ai (aa (vB false) (ah (ak (ai (aa (vL Run.enc s1_1) (bR y7 rfl wz (aa (vL Run.enc s2_2) (bR y7 rfl wz (aa (vB ((s1_1.length:Int) != (s2_2.length:Int))) (ah ?_))))))))))
 rcases aj hF with⟨hc_3,hF⟩|⟨hc_3,hF⟩
 ·refine aB rfl hc_3 (ai (aa (vB false) (ah ?_)))
  obtain rfl:=ae hF
  exact ay (aK [(vB false)] ⟨rfl,trivial⟩)
 ·refine aA rfl hc_3 (av (ak (ai (aa (vL Run.enc s1_1) (bR y7 rfl wz (aa (vI 0) (ah ?_)))))))
  obtain ⟨o_12,hj_13,hF⟩:=bind_some hF
  obtain ⟨hn_8,hj_13⟩:=bf hj_13
  refine cz (λ(s_9:Unit)=>[]) (λ(s_9:Unit)=>[]) (λ(k_4:Nat)=>(λ(s_9:Unit)=>[(0,(vL Run.enc s1_1)),(1,(vL Run.enc s2_2)),(12,(vI (s1_1.length:Int))),(13,(vI (k_4:Int)))])) (λk x s=>eH s2_2 k x s) o_12 s1_1 () hj_13 rfl (aL rfl) ?_ ?_
  ·rintro ⟨k_4,l_5,s_9⟩ ⟨hL_11,hD_7⟩
   dsimp only at hL_11 hD_7
   cases l_5 with
   | nil =>
    obtain rfl:=ae hL_11
    refine ai (aa (vB (decide ((k_4:Int)<(s1_1.length:Int)))) (ah ?_))
    refine ak (aA rfl (drop_nil hD_7) (aV ?_))
    exact aS (s_9) rfl rfl (aL rfl)
   | cons x_6 l_5 =>
    obtain ⟨c_,hc_10,hL_11⟩:=bind_some hL_11
    refine ai (aa (vB (decide ((k_4:Int)<(s1_1.length:Int)))) (ah ?_))
    refine ak (aB rfl (bv hD_7) (av ?_))
    unfold eH at hc_10
    refine ak (aM (ai (aa (vI (k_4:Int)) (aa (vI (k_4:Int)) (ah (ak (bB (aa (vL Run.enc s1_1) (aa (vI (k_4:Int)) (dD l7 rfl rfl (bI hD_7) rfl wz (bE oo xU rfl (.d (.agg (Run.enc x_6))) rfl wz (aa (vL Run.enc s2_2) (aa (vI (k_4:Int)) ?_)))))))))))))
    obtain ⟨y_14,hy_15,hc_10⟩:=bind_some hc_10
    refine dD l7 rfl rfl hy_15 rfl wz (bE oo xU rfl (.d (.agg (Run.enc y_14))) rfl wz (aG (vB (!((x_6.f_from==y_14.f_from)&&((x_6.f_to==y_14.f_to)&&true)))) wz (by kernel_rfl) (ah ?_)))
    rcases aj hc_10 with⟨hc_16,hc_10⟩|⟨hc_16,hc_10⟩
    ·refine aB rfl hc_16 (ai (aa (vB false) (ah ?_)))
     obtain rfl:=ae hc_10
     obtain rfl:=ae hL_11
     obtain rfl:=ae hF
     exact ay (aK [(vB false)] ⟨rfl,trivial⟩)
    ·refine aA rfl hc_16 (av (au (dS (bC hD_7 hn_8) wz rfl (aa (vI ((k_4+1:Nat):Int)) (ah ?_)))))
     obtain rfl:=ae hc_10
     exact aU (k_4+1,l_5,()) ⟨hL_11,aX hD_7⟩ (ls_ _) rfl (aL rfl)
  ·rintro s_9 ho_ sl_ H_ hp_ hq_
   subst ho_
   refine aO _ hp_ hq_ (ai (aa (vB true) (ah ?_)))
   obtain rfl:=ae hF
   exact ay (aK [(vB true)] ⟨rfl,trivial⟩)
theorem BS {l_1:(List Rect)} {m_2:(List Rect)} {r:(List Rect)} (hF:nI l_1 m_2=some r) :
  FnM Tryz.prog 40 [(vL Rect.enc l_1),(vL Rect.enc m_2)] [] (vL Rect.enc r) []:=by
 refine FnM.of_wH ⟨Tryz.prog,88,[],[]⟩ rfl Tryz.func40 rfl rfl (lb_ rfl) (by kernel_rfl) ?_
 unfold nI at hF
 refine ai (aa .nil (ah (ai (aa .nil (ah (ak (ai (aa (vL Rect.enc l_1) (aa (vL Rect.enc m_2) (gm (([l_1,m_2]:List (List Rect)).map (eL Rect.enc)) Oz ez148 rfl rfl rfl rfl rfl wz ?_))))))))))
 obtain ⟨r_3,hr_4,hF⟩:=bind_some hF
 refine aD (nU hr_4) rfl hb62 rfl rfl rfl rfl wz (bR Be rfl wz (aa (vI 0) (ah (pO (λn_11 => ?_)))))
 obtain ⟨o_16,hj_17,hF⟩:=bind_some hF
 obtain ⟨hn_9,hj_17⟩:=bf hj_17
 refine iP (σ:=(List Int)) (N:=Nm) (λp=>(λ(s_10:List Int) (n_13:Nm)=>([(0,(vL Rect.enc l_1)),(1,(vL Rect.enc m_2)),(5,(gV n_13 1 s_10))]:SL_)) p.1 p.2) (λp=>(λ(s_10:List Int) (n_13:Nm)=>([(n_13,gB 1 eI s_10)]:Hp)) p.1 p.2) (λ(k_5:Nat)=>(λp=>(λ(s_10:List Int) (n_13:Nm)=>([(0,(vL Rect.enc l_1)),(1,(vL Rect.enc m_2)),(5,(gV n_13 1 s_10)),(19,(vL Rect.enc r_3)),(20,(vI (r_3.length:Int))),(21,(vI (k_5:Int)))]:SL_)) p.1 p.2)) (λk x s=>mU k x s) o_16 r_3 (([]:List Int),n_11) hj_17 rfl (aL rfl) ?_ ?_
 ·rintro ⟨k_5,l_6,s_10,n_13⟩ ⟨hL_15,hD_8⟩
  dsimp only at hL_15 hD_8
  cases l_6 with
  | nil =>
   obtain rfl:=ae hL_15
   refine ai (aa (vB (decide ((k_5:Int)<(r_3.length:Int)))) (ah ?_))
   refine ak (aA rfl (drop_nil hD_8) (aV ?_))
   exact aS (s_10,n_13) rfl rfl (aL rfl)
  | cons x_7 l_6 =>
   obtain ⟨c_,hc_14,hL_15⟩:=bind_some hL_15
   refine ai (aa (vB (decide ((k_5:Int)<(r_3.length:Int)))) (ah ?_))
   refine ak (aB rfl (bv hD_8) (av ?_))
   unfold mU at hc_14
   refine ak (aM (ai (dD HZ rfl rfl (bI hD_8) rfl wz (bE xI Ja rfl (.d (.agg (Rect.enc x_7))) rfl wz (dB 0 (.inl rfl) z66 rfl wz (λn_18=>fE 0 il ft 1 xI rfl rfl (Rect.v x_7) rfl wz (ah (au (aa (gV n_13 1 s_10) (aH xJ rfl 1 rfl wz (aF 0 1 il ft sz3 ag3 rfl rfl (vI x_7.Y) rfl wz (aH xJ rfl 1 rfl wz (aF 0 1 il ft sz3 ag3 rfl rfl (vI x_7.Y) rfl wz (aH Fs rfl 3 rfl wz (aF 0 1 il ft sz3 ag3 rfl rfl (vI x_7.H) rfl wz (aa (vI (w64 (x_7.Y+x_7.H))) (gm (([x_7.Y,(w64 (x_7.Y+x_7.H))]:List Int).map eI) gK CK rfl rfl rfl rfl rfl wz ?_)))))))))))))))))
   obtain ⟨a_19,hz_20,hc_14⟩:=bind_some hc_14
   refine nO 0 il ft (i:=0) KH KH sz3 z3 rfl (by decide) by3 (by decide) (λ_=>rfl) rfl rfl rfl hz_20 wz (λn_21=>aa (gV n_21 1 a_19) (ah (au (dS (bC hD_8 hn_9) wz rfl (aa (vI ((k_5+1:Nat):Int)) (ah ?_))))))
   obtain rfl:=ae hc_14
   exact aU (k_5+1,l_6,a_19,n_21) ⟨hL_15,aX hD_8⟩ (ls_ _) rfl (aL rfl)
 ·rintro ⟨s_10,n_13⟩ ho_ sl_ H_ hp_ hq_
  subst ho_
  refine aO _ hp_ hq_ (ai (aa (gV n_13 1 s_10) ?_))
  obtain ⟨r_22,hr_23,hF⟩:=bind_some hF
  obtain ⟨_,hs_24,hF⟩:=bind_some hF
  replace hs_24:=qH hs_24
  refine zP 0 [] 0 0 il ft (tq hr_23) rfl hb63 rfl rfl rfl (by kernel_rfl) rfl (.inl rfl) rfl (by kernel_rfl) (by kernel_rfl) (by kernel_rfl) (by kernel_rfl) rfl (by decide) (by kernel_rfl) Cs (Ms hs_24) wz ([(n_13,gB 1 eI r_22)]:Hp) (by kernel_rfl) (jY (v':=(gV n_13 1 r_22)) 36 rfl (sK hs_24.symm) (jY (v':=(gV n_13 1 r_22)) 5 rfl (sK hs_24.symm) (ah (ai (aa (gV n_13 1 r_22) ?_)))))
  obtain ⟨r_25,hr_26,hF⟩:=bind_some hF
  refine zP 0 [] 0 0 il ft (qZ hr_26) rfl hb64 rfl rfl rfl (by kernel_rfl) rfl (.inl rfl) rfl (by kernel_rfl) (by kernel_rfl) (by kernel_rfl) (by kernel_rfl) rfl (by decide) (by kernel_rfl) De (λ_=>rfl) wz ([(n_13,none)]:Hp) (by kernel_rfl) (aa (vL eI r_25) (ah (ai (aa .nil (ah (ai (aa .nil (ah (ai (aa (vI 0) (ah (ak (ai (aa (vL eI r_25) (bR u7 rfl wz (aa (vI 0) (ah (Mc Run.enc 9 rfl (pO (λn_33 => ?_))))))))))))))))))))
  obtain ⟨o_38,hj_39,hF⟩:=bind_some hF
  obtain ⟨hn_31,hj_39⟩:=bf hj_39
  refine iP (σ:=(List Rect)×(List Run)×Int) (N:=Nm) (λp=>(λ(s_32:(List Rect)×(List Run)×Int) (n_35:Nm)=>([(8,(gV n_35 4 s_32.1))]:SL_)) p.1 p.2) (λp=>(λ(s_32:(List Rect)×(List Run)×Int) (n_35:Nm)=>([(n_13,none),(n_35,gB 4 Rect.enc s_32.1)]:Hp)) p.1 p.2) (λ(k_27:Nat)=>(λp=>(λ(s_32:(List Rect)×(List Run)×Int) (n_35:Nm)=>([(0,(vL Rect.enc l_1)),(1,(vL Rect.enc m_2)),(5,(vL eI r_25)),(8,(gV n_35 4 s_32.1)),(9,(vL Run.enc s_32.2.1)),(10,(vI s_32.2.2)),(40,(vL eI r_25)),(41,(vI (r_25.length:Int))),(42,(vI (k_27:Int)))]:SL_)) p.1 p.2)) (λk x s=>jZ r_25 l_1 m_2 k x s) o_38 r_25 ((([]:List Rect),([]:List Run),0),n_33) hj_39 rfl (aL rfl) ?_ ?_
  ·rintro ⟨k_27,l_28,s_32,n_35⟩ ⟨hL_37,hD_30⟩
   dsimp only at hL_37 hD_30
   cases l_28 with
   | nil =>
    obtain rfl:=ae hL_37
    refine ai (aa (vB (decide ((k_27:Int)<(r_25.length:Int)))) (ah ?_))
    refine ak (aA rfl (drop_nil hD_30) (aV ?_))
    exact aS (s_32,n_35) rfl rfl (aL rfl)
   | cons x_29 l_28 =>
    obtain ⟨c_,hc_36,hL_37⟩:=bind_some hL_37
    refine ai (aa (vB (decide ((k_27:Int)<(r_25.length:Int)))) (ah ?_))
    refine ak (aB rfl (bv hD_30) (av ?_))
    unfold jZ at hc_36
    refine ak (aM (ai (aa (vI (k_27:Int)) (dD gK rfl rfl (bI hD_30) rfl wz (bE sz3 ag3 rfl (vI x_29) rfl wz (aa (vI (k_27:Int)) (aa (vI x_29) (ah (ai (aa .nil (ah (ak (ai (aa (vI (k_27:Int)) (aa (vI (w64 ((k_27:Int)+1))) (aa (vL eI r_25) (bR u7 rfl wz (aa (vB (decide ((w64 ((k_27:Int)+1))<(r_25.length:Int)))) (ah (Mc Run.enc 13 rfl ?_))))))))))))))))))))
    obtain ⟨v_42,h_43,hc_36⟩:=bind_some hc_36
    refine aQ [(0,(vL Rect.enc l_1)),(1,(vL Rect.enc m_2)),(5,(vL eI r_25)),(8,(gV n_35 4 s_32.1)),(9,(vL Run.enc s_32.2.1)),(10,(vI s_32.2.2)),(12,(vI x_29)),(13,(vL Run.enc v_42)),(40,(vL eI r_25)),(41,(vI (r_25.length:Int))),(42,(vI (k_27:Int)))] [(n_13,none),(n_35,gB 4 Rect.enc s_32.1)] ?_ ?_
    ·rcases aj h_43 with⟨hc_44,h_43⟩|⟨hc_44,h_43⟩
     ·refine aB rfl hc_44 (au (aa (vL Rect.enc l_1) (aa (vI x_29) ?_)))
      obtain ⟨r_45,hr_46,h_43⟩:=bind_some h_43
      refine aD (xD hr_46) rfl hb66 rfl rfl rfl rfl wz (aa (vL Rect.enc m_2) (aa (vI x_29) ?_))
      obtain ⟨r_47,hr_48,h_43⟩:=bind_some h_43
      refine aD (xD hr_48) rfl hb66 rfl rfl rfl rfl wz ?_
      obtain ⟨r_49,hr_50,h_43⟩:=bind_some h_43
      refine aD (DI hr_50) rfl hb65 rfl rfl rfl rfl wz (aa (vL Run.enc r_49) (ah ?_))
      obtain rfl:=ae h_43
      exact cu
     ·refine aA rfl hc_44 (av ?_)
      obtain rfl:=ae h_43
      exact cu
    ·rintro ⟨⟩ _ sl_ H_ hp_ hq_
     refine aO _ hp_ hq_ (ak (ai (aa (vL Run.enc s_32.2.1) (aa (vL Run.enc v_42) ?_))))
     obtain ⟨r_51,hr_52,hc_36⟩:=bind_some hc_36
     refine aD (mO hr_52) rfl hb67 rfl rfl rfl rfl wz (ah ?_)
     rcases aj hc_36 with⟨hc_53,hc_36⟩|⟨hc_53,hc_36⟩
     ·refine aB rfl hc_53 (aV (au (dS (bC hD_30 hn_31) wz rfl (aa (vI ((k_27+1:Nat):Int)) (ah ?_)))))
      obtain rfl:=ae hc_36
      exact aU (k_27+1,l_28,(s_32.1,s_32.2.1,s_32.2.2),n_35) ⟨hL_37,aX hD_30⟩ (ls_ _) rfl (aL rfl)
     ·refine aA rfl hc_53 (av (ak (ai (aa (vL Run.enc s_32.2.1) (bR y7 rfl wz (aa (vI 0) (ah ?_)))))))
      obtain ⟨o_64,hj_65,hc_36⟩:=bind_some hc_36
      obtain ⟨hn_58,hj_65⟩:=bf hj_65
      refine iP (σ:=(List Rect)) (N:=Nm) (λp=>(λ(s_59:List Rect) (n_61:Nm)=>([(0,(vL Rect.enc l_1)),(1,(vL Rect.enc m_2)),(5,(vL eI r_25)),(8,(gV n_61 4 s_59)),(12,(vI x_29)),(13,(vL Run.enc v_42)),(40,(vL eI r_25)),(41,(vI (r_25.length:Int))),(42,(vI (k_27:Int)))]:SL_)) p.1 p.2) (λp=>(λ(s_59:List Rect) (n_61:Nm)=>([(n_13,none),(n_61,gB 4 Rect.enc s_59)]:Hp)) p.1 p.2) (λ(k_54:Nat)=>(λp=>(λ(s_59:List Rect) (n_61:Nm)=>([(0,(vL Rect.enc l_1)),(1,(vL Rect.enc m_2)),(5,(vL eI r_25)),(8,(gV n_61 4 s_59)),(10,(vI s_32.2.2)),(12,(vI x_29)),(13,(vL Run.enc v_42)),(40,(vL eI r_25)),(41,(vI (r_25.length:Int))),(42,(vI (k_27:Int))),(62,(vL Run.enc s_32.2.1)),(63,(vI (s_32.2.1.length:Int))),(64,(vI (k_54:Int)))]:SL_)) p.1 p.2)) (λk x s=>mK s_32 x_29 k x s) o_64 s_32.2.1 (s_32.1,n_35) hj_65 rfl (aL rfl) ?_ ?_
      ·rintro ⟨k_54,l_55,s_59,n_61⟩ ⟨hL_63,hD_57⟩
       dsimp only at hL_63 hD_57
       cases l_55 with
       | nil =>
        obtain rfl:=ae hL_63
        refine ai (aa (vB (decide ((k_54:Int)<(s_32.2.1.length:Int)))) (ah ?_))
        refine ak (aA rfl (drop_nil hD_57) (aV ?_))
        exact aS (s_59,n_61) rfl rfl (aL rfl)
       | cons x_56 l_55 =>
        obtain ⟨c_,hc_62,hL_63⟩:=bind_some hL_63
        refine ai (aa (vB (decide ((k_54:Int)<(s_32.2.1.length:Int)))) (ah ?_))
        refine ak (aB rfl (bv hD_57) (av ?_))
        unfold mK at hc_62
        refine ak (aM (ai (dD l7 rfl rfl (bI hD_57) rfl wz (bE oo xU rfl (.d (.agg (Run.enc x_56))) rfl wz (dB 0 (.inl rfl) z131 rfl wz (λn_66=>fE 0 il ft 2 oo rfl rfl [(vI x_56.f_from),(vI x_56.f_to)] rfl wz (ah (au (aa (gV n_61 4 s_59) (aH lM rfl 0 rfl wz (aF 0 2 il ft sz3 ag3 rfl rfl (vI x_56.f_from) rfl wz (aa (vI s_32.2.2) (aH rP rfl 1 rfl wz (aF 0 2 il ft sz3 ag3 rfl rfl (vI x_56.f_to) rfl wz (aH lM rfl 0 rfl wz (aF 0 2 il ft sz3 ag3 rfl rfl (vI x_56.f_from) rfl wz (aa (vI (w64 (x_56.f_to-x_56.f_from))) (aa (vI x_29) (aa (vI s_32.2.2) (aa (vI (w64 (x_29-s_32.2.2))) (aG (.d (.agg (Rect.enc (⟨x_56.f_from,s_32.2.2,(w64 (x_56.f_to-x_56.f_from)),(w64 (x_29-s_32.2.2))⟩:Rect)))) wz (by kernel_rfl) (gm (([(⟨x_56.f_from,s_32.2.2,(w64 (x_56.f_to-x_56.f_from)),(w64 (x_29-s_32.2.2))⟩:Rect)]:List Rect).map Rect.enc) HZ ez67 rfl rfl rfl rfl rfl wz ?_))))))))))))))))))))))
        obtain ⟨a_67,hz_68,hc_62⟩:=bind_some hc_62
        refine nO 0 il ft (i:=1) Lh Lh xI z66 rfl (by decide) by66 (by decide) (λ_=>rfl) rfl rfl rfl hz_68 wz (λn_69=>aa (gV n_69 4 a_67) (ah (au (dS (bC hD_57 hn_58) wz rfl (aa (vI ((k_54+1:Nat):Int)) (ah ?_))))))
        obtain rfl:=ae hc_62
        exact aU (k_54+1,l_55,a_67,n_69) ⟨hL_63,aX hD_57⟩ (ls_ _) rfl (aL rfl)
      ·rintro ⟨s_59,n_61⟩ ho_ sl_ H_ hp_ hq_
       subst ho_
       refine aO _ hp_ hq_ (au (aa (vL Run.enc v_42) (aa (vI x_29) (aa (vL Run.enc v_42) (aa (vI x_29) (ah (au (dS (bC hD_30 hn_31) wz rfl (aa (vI ((k_27+1:Nat):Int)) (ah ?_))))))))))
       obtain rfl:=ae hc_36
       exact aU (k_27+1,l_28,(s_59,v_42,x_29),n_61) ⟨hL_37,aX hD_30⟩ (ls_ _) rfl (aL rfl)
  ·rintro ⟨s_32,n_35⟩ ho_ sl_ H_ hp_ hq_
   subst ho_
   refine aO _ hp_ hq_ (ai (aa (gV n_35 4 s_32.1) (aa (gV n_35 4 s_32.1) (ah (jN 1 rfl (gq 4 1 rfl rfl (gq 8 1 rfl rfl (gq 87 1 rfl rfl ?_))))))))
   obtain rfl:=ae hF
   exact ay (aK [(vL Rect.enc s_32.1)] ⟨rfl,trivial⟩)
theorem DY {l_1:(List Rect)} {r:Int} (hF:tF l_1=some r) :
  FnM Tryz.prog 39 [(vL Rect.enc l_1)] [] (vI r) []:=by
 refine FnM.of_wH ⟨Tryz.prog,21,[],[]⟩ rfl Tryz.func39 rfl rfl (lb_ rfl) (by kernel_rfl) ?_
 unfold tF at hF
 refine ai (aa (vI 0) (ah (ai (aa (vI 0) (ah (ak (ai (aa (vL Rect.enc l_1) (bR Be rfl wz (aa (vI 0) (ah ?_)))))))))))
 obtain ⟨o_10,hj_11,hF⟩:=bind_some hF
 obtain ⟨hn_6,hj_11⟩:=bf hj_11
 refine cz (λ(s_7:Int)=>[(3,(vI s_7))]) (λ(s_7:Int)=>[]) (λ(k_2:Nat)=>(λ(s_7:Int)=>[(3,(vI s_7)),(6,(vL Rect.enc l_1)),(7,(vI (l_1.length:Int))),(8,(vI (k_2:Int)))])) (λk x s=>sO k x s) o_10 l_1 0 hj_11 rfl (aL rfl) ?_ ?_
 ·rintro ⟨k_2,l_3,s_7⟩ ⟨hL_9,hD_5⟩
  dsimp only at hL_9 hD_5
  cases l_3 with
  | nil =>
   obtain rfl:=ae hL_9
   refine ai (aa (vB (decide ((k_2:Int)<(l_1.length:Int)))) (ah ?_))
   refine ak (aA rfl (drop_nil hD_5) (aV ?_))
   exact aS (s_7) rfl rfl (aL rfl)
  | cons x_4 l_3 =>
   obtain ⟨c_,hc_8,hL_9⟩:=bind_some hL_9
   refine ai (aa (vB (decide ((k_2:Int)<(l_1.length:Int)))) (ah ?_))
   refine ak (aB rfl (bv hD_5) (av ?_))
   unfold sO at hc_8
   refine ak (aM (ai (dD HZ rfl rfl (bI hD_5) rfl wz (bE xI Ja rfl (.d (.agg (Rect.enc x_4))) rfl wz (dB 0 (.inl rfl) z66 rfl wz (λn_12=>fE 0 il ft 0 xI rfl rfl (Rect.v x_4) rfl wz (ah (au (aa (vI s_7) (aH Ih rfl 2 rfl wz (aF 0 0 il ft sz3 ag3 rfl rfl (vI x_4.W) rfl wz (aH Fs rfl 3 rfl wz (aF 0 0 il ft sz3 ag3 rfl rfl (vI x_4.H) rfl wz (aa (vI (w64 (x_4.W*x_4.H))) (aa (vI (w64 (s_7+(w64 (x_4.W*x_4.H))))) (aa (vI (w64 (s_7+(w64 (x_4.W*x_4.H))))) (ah (au (dS (bC hD_5 hn_6) wz rfl (aa (vI ((k_2+1:Nat):Int)) (ah ?_)))))))))))))))))))))
   obtain rfl:=ae hc_8
   exact aU (k_2+1,l_3,(w64 (s_7+(w64 (x_4.W*x_4.H))))) ⟨hL_9,aX hD_5⟩ (ls_ _) rfl (aL rfl)
 ·rintro s_7 ho_ sl_ H_ hp_ hq_
  subst ho_
  refine aO _ hp_ hq_ (ai (aa (vI s_7) (aa (vI s_7) (ah ?_))))
  obtain rfl:=ae hF
  exact ay (aK [(vI s_7)] ⟨rfl,trivial⟩)
theorem DT {l_1:(List Rect)} {r:Int×Int} (hF:qI l_1=some r) :
  FnM Tryz.prog 22 [(vL Rect.enc l_1)] [] (.tup [(vI r.1),(vI r.2)]) []:=by
 refine FnM.of_wH ⟨Tryz.prog,13,[],[]⟩ rfl Tryz.func22 rfl rfl (lb_ rfl) (by kernel_rfl) ?_
 unfold qI at hF
 refine ai (aa (vI 0) (aa (vI 0) (ah (ak (ai (aa (vL Rect.enc l_1) ?_))))))
 obtain ⟨r_2,hr_3,hF⟩:=bind_some hF
 refine aD (xC hr_3) rfl hb38 rfl rfl rfl rfl wz (aa (vI r_2) (ah (ai (aa (vI r_2) (aa (vB (r_2 != 0)) (ah ?_))))))
 rcases aj hF with⟨hc_4,hF⟩|⟨hc_4,hF⟩
 ·refine aB rfl hc_4 (ai (aa (vI r_2) (aa (vI 0) (aa (vI r_2) (ah ?_)))))
  obtain rfl:=ae hF
  exact ay (aK [(vI 0),(vI r_2)] ⟨rfl,⟨rfl,trivial⟩⟩)
 ·refine aA rfl hc_4 (av (ai (aa (vL Rect.enc l_1) ?_)))
  obtain ⟨r_5,hr_6,hF⟩:=bind_some hF
  refine aD (BS hr_6) rfl hb40 rfl rfl rfl rfl wz ?_
  obtain ⟨r_7,hr_8,hF⟩:=bind_some hF
  refine aD (DY hr_8) rfl hb39 rfl rfl rfl rfl wz (aa (vI r_7) (aa (vI 0) (ah ?_)))
  obtain rfl:=ae hF
  exact ay (aK [(vI r_7),(vI 0)] ⟨rfl,⟨rfl,trivial⟩⟩)
theorem IG {n_1:Int} {r:Bool} (hF:BL n_1=some r) :
  FnM Tryz.prog 110 [(vI n_1)] [] (vB r) []:=by
 refine FnM.of_wH ⟨Tryz.prog,9,[],[]⟩ rfl Tryz.func110 rfl rfl (lb_ rfl) (by kernel_rfl) ?_
 unfold BL at hF
 refine ai (aa (vB false) (ah (ak ?_)))
 obtain ⟨v_2,h_3,hF⟩:=bind_some hF
 refine aQ [(2,(vB v_2))] [] ?_ ?_
 ·refine au (aa (vI n_1) (aa (vB (decide (n_1>=0))) ?_))
  rcases aj h_3 with⟨hc_4,h_3⟩|⟨hc_4,h_3⟩
  ·refine aC rfl hc_4 wz (aG (vI n_1) wa rfl (aG (vB (decide (n_1<=4000))) wa rfl (aa (vB (decide (n_1<=4000))) (aa (vB (decide (n_1<=4000))) (ah ?_)))))
   obtain rfl:=ae h_3
   exact cu
  ·refine aC rfl hc_4 wz (af (af (aa (vB false) (aa (vB false) (ah ?_)))))
   obtain rfl:=ae h_3
   exact cu
 ·rintro ⟨⟩ _ sl_ H_ hp_ hq_
  refine aO _ hp_ hq_ ?_
  obtain rfl:=ae hF
  exact ay (aK [(vB v_2)] ⟨rfl,trivial⟩)
theorem uX {l_1:(List Int)} {r:Int} (hF:jD l_1=some r) :
  FnM Tryz.prog 90 [(vL eI l_1)] [] (vI r) []:=by
 refine FnM.of_wH ⟨Tryz.prog,30,[],[]⟩ rfl Tryz.func90 rfl rfl (lb_ rfl) (by kernel_rfl) ?_
 unfold jD at hF
 refine ai (aa (vI 0) (ah (ak (ai (aa (vL eI l_1) (bR u7 rfl wz (aa (vB (decide ((l_1.length:Int)>100))) (ah ?_))))))))
 rcases aj hF with⟨hc_2,hF⟩|⟨hc_2,hF⟩
 ·refine aB rfl hc_2 (ai (aa (vI 2) (ah ?_)))
  obtain rfl:=ae hF
  exact ay (aK [(vI 2)] ⟨rfl,trivial⟩)
 ·refine aA rfl hc_2 (av (ak (ai (aa (vL eI l_1) (bR u7 rfl wz (aa (vI 0) (ah ?_)))))))
  obtain ⟨o_11,hj_12,hF⟩:=bind_some hF
  obtain ⟨hn_7,hj_12⟩:=bf hj_12
  refine cz (λ(s_8:Unit)=>[]) (λ(s_8:Unit)=>[]) (λ(k_3:Nat)=>(λ(s_8:Unit)=>[(0,(vL eI l_1)),(8,(vL eI l_1)),(9,(vI (l_1.length:Int))),(10,(vI (k_3:Int)))])) (λk x s=>ko l_1 k x s) o_11 l_1 () hj_12 rfl (aL rfl) ?_ ?_
  ·rintro ⟨k_3,l_4,s_8⟩ ⟨hL_10,hD_6⟩
   dsimp only at hL_10 hD_6
   cases l_4 with
   | nil =>
    obtain rfl:=ae hL_10
    refine ai (aa (vB (decide ((k_3:Int)<(l_1.length:Int)))) (ah ?_))
    refine ak (aA rfl (drop_nil hD_6) (aV ?_))
    exact aS (s_8) rfl rfl (aL rfl)
   | cons x_5 l_4 =>
    obtain ⟨c_,hc_9,hL_10⟩:=bind_some hL_10
    refine ai (aa (vB (decide ((k_3:Int)<(l_1.length:Int)))) (ah ?_))
    refine ak (aB rfl (bv hD_6) (av ?_))
    unfold ko at hc_9
    refine ak (aM (ai (aa (vI (k_3:Int)) (dD gK rfl rfl (bI hD_6) rfl wz (bE sz3 ag3 rfl (vI x_5) rfl wz (aa (vI (k_3:Int)) (aa (vI x_5) (ah (ak (ai (aa (vI x_5) ?_)))))))))))
    obtain ⟨r_13,hr_14,hc_9⟩:=bind_some hc_9
    refine aD (IG hr_14) rfl hb110 rfl rfl rfl rfl wz (aa (vB (!r_13)) (ah ?_))
    rcases aj hc_9 with⟨hc_15,hc_9⟩|⟨hc_15,hc_9⟩
    ·refine aB rfl hc_15 (ai (aa (vI 1) (ah ?_)))
     obtain rfl:=ae hc_9
     obtain rfl:=ae hL_10
     obtain rfl:=ae hF
     exact ay (aK [(vI 1)] ⟨rfl,trivial⟩)
    ·refine aA rfl hc_15 (av (ak ?_))
     obtain ⟨v_16,h_17,hc_9⟩:=bind_some hc_9
     refine aQ [(0,(vL eI l_1)),(8,(vL eI l_1)),(9,(vI (l_1.length:Int))),(10,(vI (k_3:Int))),(28,(vB v_16))] [] ?_ ?_
     ·refine au (aa (vI (k_3:Int)) (aa (vB (decide ((k_3:Int)>0))) ?_))
      rcases aj h_17 with⟨hc_18,h_17⟩|⟨hc_18,h_17⟩
      ·refine aC rfl hc_18 wz (aG (vI x_5) wa rfl (aG (vL eI l_1) wa rfl (aG (vI (k_3:Int)) wa rfl (aG (vI (w64 ((k_3:Int)-1))) wa rfl ?_))))
       obtain ⟨y_19,hy_20,h_17⟩:=bind_some h_17
       refine dD gK rfl rfl hy_20 rfl wa (bE sz3 ag3 rfl (vI y_19) rfl wa (aG (vB (decide (x_5<=y_19))) wa rfl (aa (vB (decide (x_5<=y_19))) (ah ?_))))
       obtain rfl:=ae h_17
       exact cu
      ·refine aC rfl hc_18 wz (af (af (af (af (af (af (af (aa (vB false) (ah ?_)))))))))
       obtain rfl:=ae h_17
       exact cu
     ·rintro ⟨⟩ _ sl_ H_ hp_ hq_
      refine aO _ hp_ hq_ ?_
      rcases aj hc_9 with⟨hc_21,hc_9⟩|⟨hc_21,hc_9⟩
      ·refine aB rfl hc_21 (ai (aa (vI 7) (ah ?_)))
       obtain rfl:=ae hc_9
       obtain rfl:=ae hL_10
       obtain rfl:=ae hF
       exact ay (aK [(vI 7)] ⟨rfl,trivial⟩)
      ·refine aA rfl hc_21 (av (au (dS (bC hD_6 hn_7) wz rfl (aa (vI ((k_3+1:Nat):Int)) (ah ?_)))))
       obtain rfl:=ae hc_9
       exact aU (k_3+1,l_4,()) ⟨hL_10,aX hD_6⟩ (ls_ _) rfl (aL rfl)
  ·rintro s_8 ho_ sl_ H_ hp_ hq_
   subst ho_
   refine aO _ hp_ hq_ (ai (aa (vI 0) (ah ?_)))
   obtain rfl:=ae hF
   exact ay (aK [(vI 0)] ⟨rfl,trivial⟩)
theorem xe {l_1:(List ByteArray)} {r:Int} (hF:je l_1=some r) :
  FnM Tryz.prog 91 [(vL eS l_1)] [] (vI r) []:=by
 refine FnM.of_wH ⟨Tryz.prog,8,[],[]⟩ rfl Tryz.func91 rfl rfl (lb_ rfl) (by kernel_rfl) ?_
 unfold je at hF
 refine ai (aa (vI 0) (ah (ak (ai (aa (vL eS l_1) (bR Ac rfl wz (aa (vB (decide ((l_1.length:Int)>20))) (ah ?_))))))))
 rcases aj hF with⟨hc_2,hF⟩|⟨hc_2,hF⟩
 ·refine aB rfl hc_2 (ai (aa (vI 2) (ah ?_)))
  obtain rfl:=ae hF
  exact ay (aK [(vI 2)] ⟨rfl,trivial⟩)
 ·refine aA rfl hc_2 (av (ai (aa (vL eS l_1) ?_)))
  obtain ⟨r_3,hr_4,hF⟩:=bind_some hF
  refine aD (su hr_4) rfl hb83 rfl rfl rfl rfl wz (aa (vI r_3) (ah ?_))
  obtain rfl:=ae hF
  exact ay (aK [(vI r_3)] ⟨rfl,trivial⟩)
theorem wN {e_1:Entry} {r:Int} (hF:iQ e_1=some r) :
  FnM Tryz.prog 68 [(.d (.agg (Entry.enc e_1)))] [] (vI r) []:=by
 refine FnM.of_wH ⟨Tryz.prog,61,[],[]⟩ rfl Tryz.func68 rfl rfl (lb_ rfl) (by kernel_rfl) ?_
 unfold iQ at hF
 refine ai (ig 0 (.inl rfl) (Entry.v e_1) rfl rfl wz (λn_2=>aa (vI 0) (ah (ak (ak ?_)))))
 obtain ⟨v_3,h_4,hF⟩:=bind_some hF
 refine aQ [(1,(.ref n_2 0 0)),(13,(vB v_3))] [(n_2,some (.cells 13 (Entry.v e_1)))] ?_ ?_
 ·refine au (aH LP rfl 0 rfl wz (aF 0 0 il ft sz9 ag9 rfl rfl (vS e_1.Key) rfl wz ?_))
  obtain ⟨r_5,hr_6,h_4⟩:=bind_some h_4
  refine aD (fD hr_6) rfl CF rfl rfl rfl rfl wz (aa (vB (!r_5)) ?_)
  rcases aj h_4 with⟨hc_7,h_4⟩|⟨hc_7,h_4⟩
  ·refine aC rfl hc_7 wz (af (af (af (af (aa (vB true) (ah ?_))))))
   obtain rfl:=ae h_4
   exact cu
  ·refine aC rfl hc_7 wz (aH pl72_1 rfl 1 rfl wa (aF 0 0 il ft sz9 ag9 rfl rfl (vS e_1.Item) rfl wa ?_))
   obtain ⟨r_8,hr_9,h_4⟩:=bind_some h_4
   refine aD (fD hr_9) rfl CF rfl rfl rfl rfl wa (aG (vB (!r_8)) wa rfl (aa (vB (!r_8)) (ah ?_)))
   obtain rfl:=ae h_4
   exact cu
 ·rintro ⟨⟩ _ sl_ H_ hp_ hq_
  refine aO _ hp_ hq_ ?_
  rcases aj hF with⟨hc_10,hF⟩|⟨hc_10,hF⟩
  ·refine aB rfl hc_10 (ai (aa (vI 5) (ah ?_)))
   obtain rfl:=ae hF
   exact ay (aK [(vI 5)] ⟨rfl,trivial⟩)
  ·refine aA rfl hc_10 (av (ak (ak ?_)))
   obtain ⟨v_11,h_12,hF⟩:=bind_some hF
   refine aQ [(1,(.ref n_2 0 0)),(38,(vB v_11))] [(n_2,some (.cells 13 (Entry.v e_1)))] ?_ ?_
   ·refine au (aH pl72_2 rfl 2 rfl wz (aF 0 0 il ft sz3 ag3 rfl rfl (vI e_1.Version) rfl wz ?_))
    obtain ⟨r_13,hr_14,h_12⟩:=bind_some h_12
    refine aD (bn hr_14) rfl qM rfl rfl rfl rfl wz ?_
    rcases aj h_12 with⟨hc_15,h_12⟩|⟨hc_15,h_12⟩
    ·refine aC rfl hc_15 wz (af (af (af (af (af (aa (vB true) (aa (vB true) (af (af (af (aa (vB true) (aa (vB true) (af (af (af (aa (vB true) (aa (vB true) (af (af (af (aa (vB true) (ah ?_))))))))))))))))))))))
     obtain rfl:=ae h_12
     exact cu
    ·refine aC rfl hc_15 wz (aH Ha rfl 3 rfl wa (aF 0 0 il ft sz3 ag3 rfl rfl (vI e_1.First) rfl wa (aH G7 rfl 4 rfl wa (aF 0 0 il ft sz3 ag3 rfl rfl (vI e_1.Last) rfl wa ?_))))
     obtain ⟨r_16,hr_17,h_12⟩:=bind_some h_12
     refine aD (bn hr_17) rfl qM rfl rfl rfl rfl wa (aa (vB r_16) ?_)
     rcases aj h_12 with⟨hc_18,h_12⟩|⟨hc_18,h_12⟩
     ·refine aC rfl hc_18 wz (af (af (af (aa (vB true) (aa (vB true) (af (af (af (aa (vB true) (aa (vB true) (af (af (af (aa (vB true) (ah ?_)))))))))))))))
      obtain rfl:=ae h_12
      exact cu
     ·refine aC rfl hc_18 wz (aH G7 rfl 4 rfl wa (aF 0 0 il ft sz3 ag3 rfl rfl (vI e_1.Last) rfl wa (aG (vB (decide (e_1.Last>4000))) wa rfl (aa (vB (decide (e_1.Last>4000))) ?_))))
      rcases aj h_12 with⟨hc_19,h_12⟩|⟨hc_19,h_12⟩
      ·refine aC rfl hc_19 wz (af (af (af (aa (vB true) (aa (vB true) (af (af (af (aa (vB true) (ah ?_))))))))))
       obtain rfl:=ae h_12
       exact cu
      ·refine aC rfl hc_19 wz (aH Oe rfl 5 rfl wa (aF 0 0 il ft sz3 ag3 rfl rfl (vI e_1.Every) rfl wa ?_))
       obtain ⟨r_20,hr_21,h_12⟩:=bind_some h_12
       refine aD (bn hr_21) rfl qM rfl rfl rfl rfl wa (aa (vB r_20) ?_)
       rcases aj h_12 with⟨hc_22,h_12⟩|⟨hc_22,h_12⟩
       ·refine aC rfl hc_22 wz (af (af (af (aa (vB true) (ah ?_)))))
        obtain rfl:=ae h_12
        exact cu
       ·refine aC rfl hc_22 wz (aH Ot rfl 6 rfl wa (aF 0 0 il ft sz3 ag3 rfl rfl (vI e_1.Days) rfl wa ?_))
        obtain ⟨r_23,hr_24,h_12⟩:=bind_some h_12
        refine aD (bn hr_24) rfl qM rfl rfl rfl rfl wa (aa (vB r_23) (ah ?_))
        obtain rfl:=ae h_12
        exact cu
   ·rintro ⟨⟩ _ sl_ H_ hp_ hq_
    refine aO _ hp_ hq_ ?_
    rcases aj hF with⟨hc_25,hF⟩|⟨hc_25,hF⟩
    ·refine aB rfl hc_25 (ai (aa (vI 1) (ah ?_)))
     obtain rfl:=ae hF
     exact ay (aK [(vI 1)] ⟨rfl,trivial⟩)
    ·refine aA rfl hc_25 (av (ak (ai (aH OU rfl 7 rfl wz (aF 0 0 il ft uB wF rfl rfl (vL eI e_1.Except) rfl wz ?_)))))
     obtain ⟨r_26,hr_27,hF⟩:=bind_some hF
     refine aD (uX hr_27) rfl hb90 rfl rfl rfl rfl wz (aa (vI r_26) (ah (ai (aa (vI r_26) (aa (vB (r_26 != 0)) (ah ?_))))))
     rcases aj hF with⟨hc_28,hF⟩|⟨hc_28,hF⟩
     ·refine aB rfl hc_28 (ai (aa (vI r_26) (aa (vI r_26) (ah ?_))))
      obtain rfl:=ae hF
      exact ay (aK [(vI r_26)] ⟨rfl,trivial⟩)
     ·refine aA rfl hc_28 (av (ak (ak ?_)))
      obtain ⟨v_29,h_30,hF⟩:=bind_some hF
      refine aQ [(1,(.ref n_2 0 0)),(57,(vB v_29))] [(n_2,some (.cells 13 (Entry.v e_1)))] ?_ ?_
      ·refine au (aH Ll rfl 8 rfl wz (aF 0 0 il ft sz3 ag3 rfl rfl (vI e_1.From) rfl wz ?_))
       obtain ⟨r_31,hr_32,h_30⟩:=bind_some h_30
       refine aD (bn hr_32) rfl qM rfl rfl rfl rfl wz ?_
       rcases aj h_30 with⟨hc_33,h_30⟩|⟨hc_33,h_30⟩
       ·refine aC rfl hc_33 wz (af (af (af (aa (vB true) (aa (vB true) (af (af (af (aa (vB true) (ah ?_))))))))))
        obtain rfl:=ae h_30
        exact cu
       ·refine aC rfl hc_33 wz (aH Pj rfl 9 rfl wa (aF 0 0 il ft sz3 ag3 rfl rfl (vI e_1.To) rfl wa ?_))
        obtain ⟨r_34,hr_35,h_30⟩:=bind_some h_30
        refine aD (bn hr_35) rfl qM rfl rfl rfl rfl wa (aa (vB r_34) ?_)
        rcases aj h_30 with⟨hc_36,h_30⟩|⟨hc_36,h_30⟩
        ·refine aC rfl hc_36 wz (af (af (af (aa (vB true) (ah ?_)))))
         obtain rfl:=ae h_30
         exact cu
        ·refine aC rfl hc_36 wz (aH pl72_10 rfl 10 rfl wa (aF 0 0 il ft sz3 ag3 rfl rfl (vI e_1.Prio) rfl wa ?_))
         obtain ⟨r_37,hr_38,h_30⟩:=bind_some h_30
         refine aD (bn hr_38) rfl qM rfl rfl rfl rfl wa (aa (vB r_37) (ah ?_))
         obtain rfl:=ae h_30
         exact cu
      ·rintro ⟨⟩ _ sl_ H_ hp_ hq_
       refine aO _ hp_ hq_ ?_
       rcases aj hF with⟨hc_39,hF⟩|⟨hc_39,hF⟩
       ·refine aB rfl hc_39 (ai (aa (vI 1) (ah ?_)))
        obtain rfl:=ae hF
        exact ay (aK [(vI 1)] ⟨rfl,trivial⟩)
       ·refine aA rfl hc_39 (av (ai (aH pl72_11 rfl 11 rfl wz (aF 0 0 il ft Ba Ez rfl rfl (vL eS e_1.Tags) rfl wz ?_))))
        obtain ⟨r_40,hr_41,hF⟩:=bind_some hF
        refine aD (xe hr_41) rfl hb91 rfl rfl rfl rfl wz (aa (vI r_40) (ah ?_))
        obtain rfl:=ae hF
        exact ay (aK [(vI r_40)] ⟨rfl,trivial⟩)
end Go.Proofs.YtekmkepojbhafacGreatDoor.Law

