/-
 The machine computes these plain functions (written by a program of ours).
-/
import Derived.Test.YtdpginbnipklcaaGreatDoorFacts
import Derived.Test.YtdpginbnipklcaaGreatDoorDefs
import Derived.Test.YtdpginbnipklcaaGreatDoorPf1
open Go Go.Eng Go.Proofs
namespace Go.Proofs.YtdpginbnipklcaaGreatDoor.Law
set_option maxRecDepth 100000
set_option linter.unusedVariables false
set_option maxHeartbeats 1000000
theorem mH {l_1:(List Log_)} {r:Int} (hF:jH l_1=some r) :
  FnM Tryz.prog 25 [(vL Log_.enc l_1)] [] (vI r) []:=by
 refine FnM.of_wH ⟨Tryz.prog,38,[],[]⟩ rfl Tryz.func25 rfl rfl (lb_ rfl) (by kernel_rfl) ?_
 unfold jH at hF
 refine aj (aa (vI 0) (af (au (aj (aa (vL Log_.enc l_1) (iT lK rfl wz (aa (vB (decide ((l_1.length:Int)>2000))) (af ?_))))))))
 rcases ah hF with⟨hc_2,hF⟩|⟨hc_2,hF⟩
 ·refine aB rfl hc_2 (aj (aa (vI 2) (af ?_)))
  obtain rfl:=ae hF
  exact aN (bz [(vI 2)] ⟨rfl,trivial⟩)
 ·refine aA rfl hc_2 (ay (au (aj (aa (vL Log_.enc l_1) (iT lK rfl wz (aa (vI 0) (af ?_)))))))
  obtain ⟨o_11,hj_12,hF⟩:=bind_some hF
  obtain ⟨hn_7,hj_12⟩:=dI hj_12
  refine jE (λ(s_8:Unit)=>[]) (λ(s_8:Unit)=>[]) (λ(k_3:Nat)=>(λ(s_8:Unit)=>[(0,(vL Log_.enc l_1)),(9,(vL Log_.enc l_1)),(10,(vI (l_1.length:Int))),(11,(vI (k_3:Int)))])) (λk x s=>lh l_1 k x s) o_11 l_1 () hj_12 rfl (aC rfl) ?_ ?_
  ·rintro ⟨k_3,l_4,s_8⟩ ⟨hL_10,hD_6⟩
   dsimp only at hL_10 hD_6
   cases l_4 with
   | nil =>
    obtain rfl:=ae hL_10
    refine aj (aa (vB (decide ((k_3:Int)<(l_1.length:Int)))) (af ?_))
    refine au (aA rfl (drop_nil hD_6) (aV ?_))
    exact aX (s_8) rfl rfl (aC rfl)
   | cons x_5 l_4 =>
    obtain ⟨c_,hc_9,hL_10⟩:=bind_some hL_10
    refine aj (aa (vB (decide ((k_3:Int)<(l_1.length:Int)))) (af ?_))
    refine au (aB rfl (iy hD_6) (ay ?_))
    unfold lh at hc_9
    refine au (aI (aj (aa (vI (k_3:Int)) (jQ bg rfl rfl (iW hD_6) rfl wz (fO bf bL rfl (.d (.agg (Log_.enc x_5))) rfl wz (nk 0 (.inl rfl) z31 rfl wz (λn_13=>aa (vI (k_3:Int)) (qY 0 il ft 0 bf rfl rfl (Log_.v x_5) rfl wz (af (au (aj (bE 0 0 il ft bf bL rfl rfl (.d (.agg (Log_.enc x_5))) rfl wz ?_))))))))))))
    obtain ⟨r_14,hr_15,hc_9⟩:=bind_some hc_9
    refine aG (vJ hr_15) rfl hb37 rfl rfl rfl rfl wz (aa (vI r_14) (af (aj (aa (vI r_14) (aa (vB (r_14 != 0)) (af ?_))))))
    rcases ah hc_9 with⟨hc_16,hc_9⟩|⟨hc_16,hc_9⟩
    ·refine aB rfl hc_16 (aj (aa (vI r_14) (aa (vI r_14) (af ?_))))
     obtain rfl:=ae hc_9
     obtain rfl:=ae hL_10
     obtain rfl:=ae hF
     exact aN (bz [(vI r_14)] ⟨rfl,trivial⟩)
    ·refine aA rfl hc_16 (ay (au (aj (bD oH rfl 5 rfl wz (bE 0 0 il ft sz9 ag9 rfl rfl (vS x_5.Sum) rfl wz ?_)))))
     obtain ⟨r_17,hr_18,hc_9⟩:=bind_some hc_9
     refine aG (yw hr_18) rfl hb38 rfl rfl rfl rfl wz (aa (vB (!r_17)) (af ?_))
     rcases ah hc_9 with⟨hc_19,hc_9⟩|⟨hc_19,hc_9⟩
     ·refine aB rfl hc_19 (aj (aa (vI 3) (af ?_)))
      obtain rfl:=ae hc_9
      obtain rfl:=ae hL_10
      obtain rfl:=ae hF
      exact aN (bz [(vI 3)] ⟨rfl,trivial⟩)
     ·refine aA rfl hc_19 (ay (au ?_))
      obtain ⟨v_20,h_21,hc_9⟩:=bind_some hc_9
      refine aH [(0,(vL Log_.enc l_1)),(9,(vL Log_.enc l_1)),(10,(vI (l_1.length:Int))),(11,(vI (k_3:Int))),(36,(vB v_20))] [(n_13,some (.cells 6 (Log_.v x_5)))] ?_ ?_
      ·refine aQ (aa (vI (k_3:Int)) (aa (vB (decide ((k_3:Int)>0))) ?_))
       rcases ah h_21 with⟨hc_22,h_21⟩|⟨hc_22,h_21⟩
       ·refine aD rfl hc_22 wz (aL (vL Log_.enc l_1) wa rfl (aL (vI (k_3:Int)) wa rfl (aL (vI (w64 ((k_3:Int)-1))) wa rfl ?_)))
        obtain ⟨y_23,hy_24,h_21⟩:=bind_some h_21
        refine jQ bg rfl rfl hy_24 rfl wa (fO bf bL rfl (.d (.agg (Log_.enc y_23))) rfl wa (bE 8 0 (.inr (by kernel_rfl)) (λ_ _ ag=>trivial) bf bL rfl rfl (.d (.agg (Log_.enc x_5))) rfl wa ?_))
        obtain ⟨r_25,hr_26,h_21⟩:=bind_some h_21
        refine aG (bC hr_26) rfl uU rfl rfl rfl rfl wa (aL (vB (decide (r_25>=0))) wa rfl (aa (vB (decide (r_25>=0))) (af ?_)))
        obtain rfl:=ae h_21
        exact cu
       ·refine aD rfl hc_22 wz (ai (ai (ai (ai (ai (ai (ai (ai (aa (vB false) (af ?_))))))))))
        obtain rfl:=ae h_21
        exact cu
      ·rintro ⟨⟩ _ sl_ H_ hp_ hq_
       refine aJ _ hp_ hq_ ?_
       rcases ah hc_9 with⟨hc_27,hc_9⟩|⟨hc_27,hc_9⟩
       ·refine aB rfl hc_27 (aj (aa (vI 7) (af ?_)))
        obtain rfl:=ae hc_9
        obtain rfl:=ae hL_10
        obtain rfl:=ae hF
        exact aN (bz [(vI 7)] ⟨rfl,trivial⟩)
       ·refine aA rfl hc_27 (ay (av (lw (iB hD_6 hn_7) wz rfl (aa (vI ((k_3+1:Nat):Int)) (af ?_)))))
        obtain rfl:=ae hc_9
        exact aK (k_3+1,l_4,()) ⟨hL_10,bR hD_6⟩ (ls_ _) rfl (aC rfl)
  ·rintro s_8 ho_ sl_ H_ hp_ hq_
   subst ho_
   refine aJ _ hp_ hq_ (aj (aa (vI 0) (af ?_)))
   obtain rfl:=ae hF
   exact aN (bz [(vI 0)] ⟨rfl,trivial⟩)
theorem nE {n_1:Int} {r:Bool} (hF:dN n_1=some r) :
  FnM Tryz.prog 39 [.nil,(vI n_1)] [] (kV r (ak 0) 6 ([]:List Log_)) (kO r 6):=by
 refine FnM.of_wH ⟨Tryz.prog,27,[],[]⟩ rfl Tryz.func39 rfl rfl (lb_ rfl) (by kernel_rfl) ?_
 unfold dN at hF
 refine aj (aa .nil (af (au (aj (aa (vI n_1) (aa (vB (decide (n_1<0))) (af ?_)))))))
 rcases ah hF with⟨hc_2,hF⟩|⟨hc_2,hF⟩
 ·refine aB rfl hc_2 (av ?_)
  cases hF
 ·refine aA rfl hc_2 (ay (au (aj (aa (vI n_1) (aa .nil (IM wh rfl wz (aa .nil (Jd lK rfl wz (aa (vI (w64 (0-0))) (aa (vI (w64 (n_1-(w64 (0-0))))) (aa (vI (w64 (n_1-(w64 (0-0))))) (af (aj (aa (vI (w64 (n_1-(w64 (0-0))))) (aa (vB (decide ((w64 (n_1-(w64 (0-0))))>0))) (af ?_))))))))))))))))
  rcases ah hF with⟨hc_3,hF⟩|⟨hc_3,hF⟩
  ·refine aB rfl hc_3 (av (aa .nil (aa .nil (IM wh rfl wz (aL .nil wz (by kernel_rfl) (aa (vI (w64 (n_1-(w64 (0-0))))) ?_))))))
   obtain ⟨_,hz_5,hF⟩:=bind_some hF
   refine h_appz (enc:=Log_.enc) 0 (.inl rfl) wh (by kernel_rfl) bf z31 rfl (by decide) GK rfl rfl hz_5 wz (λn_4=>aa .nil (Jd lK rfl wz (h_cutm (m:=0) lK bf rfl rfl rfl (Nat.zero_le _) wz (aa (.vs n_4 6 0 0) (af (aj (aa (.vs n_4 6 0 0) (aa (.vs n_4 6 0 0) (af ?_)))))))))
   obtain rfl:=ae hF
   exact aN (finK (.inr rfl) 0 rfl rfl)
  ·refine aA rfl hc_3 (ay (aj (aa .nil (aa .nil (af ?_)))))
   obtain rfl:=ae hF
   exact aN (finK0 (.inr rfl) rfl)
theorem ja {data_1:(List Log_)} {a_2:Int} {b_3:Int} {r:(List Log_)} (hF:dx data_1 a_2 b_3=some r) :
  FnM Tryz.prog 56 [(dV (ak 0) 6 data_1),(vI a_2),(vI b_3),(.fn 28 [])] (([]:List Box)++gI 6 Log_.enc data_1) (.tup []) (([]:List Box).map some++gT data_1 (gB 6 Log_.enc r)):=by
 refine FnM.of_wHv ⟨Tryz.prog,53,[],[]⟩ rfl Tryz.func56 rfl rfl (lb_ rfl) (by kernel_rfl) ?_
 unfold dx at hF
 refine aj (aa (vI a_2) (aa (vI (w64 (a_2+1))) (aa (vI (w64 (a_2+1))) (af ?_))))
 obtain ⟨o_13,hj_14,hF⟩:=bind_some hF
 obtain ⟨nq_51,hj_14⟩:=aP hj_14
 refine aU (λ(s_10:(List Log_)×Int)=>[]) (λ(s_10:(List Log_)×Int)=>[((ak 0),gB 6 Log_.enc s_10.1)]) (λ(k_5:Nat)=>(λ(s_10:(List Log_)×Int)=>[(0,(dV (ak 0) 6 s_10.1)),(1,(vI a_2)),(2,(vI b_3)),(3,(.fn 28 [])),(8,(vI s_10.2))])) (λs=>dX b_3 a_2 s) o_13 nq_51 (data_1,(w64 (a_2+1))) hj_14 rfl (aC rfl) ?_ ?_
 ·rintro ⟨k_5,s_10⟩ hL_12
  dsimp only at hL_12
  cases k_5 with
  | zero=>cases hL_12
  | succ k_5 =>
   obtain ⟨c_,hc_11,hL_12⟩:=bind_some hL_12
   unfold dX at hc_11
   refine au (aj (aa (vI s_10.2) (aa (vI b_3) (aa (vB (decide (s_10.2<b_3))) (af ?_)))))
   rcases ah hc_11 with⟨hc_15,hc_11⟩|⟨hc_15,hc_11⟩
   ·refine aB rfl hc_15 (ay (au (aI (aj (aa (vI s_10.2) (aa (vI s_10.2) (af ?_)))))))
    obtain ⟨o_24,hj_25,hc_11⟩:=bind_some hc_11
    obtain ⟨nq_50,hj_25⟩:=aP hj_25
    refine aU (λ(s_21:(List Log_)×Int)=>[(0,(dV (ak 0) 6 s_21.1)),(1,(vI a_2)),(2,(vI b_3)),(3,(.fn 28 [])),(8,(vI s_10.2))]) (λ(s_21:(List Log_)×Int)=>[((ak 0),gB 6 Log_.enc s_21.1)]) (λ(k_16:Nat)=>(λ(s_21:(List Log_)×Int)=>[(0,(dV (ak 0) 6 s_21.1)),(1,(vI a_2)),(2,(vI b_3)),(3,(.fn 28 [])),(8,(vI s_10.2)),(9,(vI s_21.2))])) (λs=>dS a_2 s) o_24 nq_50 (s_10.1,s_10.2) hj_25 rfl (aC rfl) ?_ ?_
    ·rintro ⟨k_16,s_21⟩ hL_23
     dsimp only at hL_23
     cases k_16 with
     | zero=>cases hL_23
     | succ k_16 =>
      obtain ⟨c_,hc_22,hL_23⟩:=bind_some hL_23
      unfold dS at hc_22
      refine au (au ?_)
      obtain ⟨v_26,h_27,hc_22⟩:=bind_some hc_22
      refine aH [(0,(dV (ak 0) 6 s_21.1)),(1,(vI a_2)),(2,(vI b_3)),(3,(.fn 28 [])),(8,(vI s_10.2)),(9,(vI s_21.2)),(34,(vB v_26))] [((ak 0),gB 6 Log_.enc s_21.1)] ?_ ?_
      ·refine aQ (aa (vI s_21.2) (aa (vI a_2) (aa (vB (decide (s_21.2>a_2))) ?_)))
       rcases ah h_27 with⟨hc_28,h_27⟩|⟨hc_28,h_27⟩
       ·refine aD rfl hc_28 wz (aL (.fn 28 []) wa rfl (aL (dV (ak 0) 6 s_21.1) wa rfl (aL (vI s_21.2) wa rfl ?_)))
        obtain ⟨_,hi_29,h_27⟩:=bind_some h_27
        refine aO bg rfl rfl (aW hi_29) (aM hi_29) wa ?_
        obtain ⟨e_30,hy_31,h_27⟩:=bind_some h_27
        refine aZ 8 0 (.inr (by kernel_rfl)) (λ_ _ ag=>trivial) bf bL rfl rfl hy_31 (.d (.agg (Log_.enc e_30))) rfl wa (aL (dV (ak 0) 6 s_21.1) wa rfl (aL (vI s_21.2) wa rfl (aL (vI (w64 (s_21.2-1))) wa rfl ?_)))
        obtain ⟨_,hi_32,h_27⟩:=bind_some h_27
        refine aO bg rfl rfl (aW hi_32) (aM hi_32) wa ?_
        obtain ⟨e_33,hy_34,h_27⟩:=bind_some h_27
        refine aZ 13 0 (.inr (by kernel_rfl)) (λ_ _ ag=>⟨.inl ⟨rfl,rfl⟩,trivial⟩) bf bL rfl rfl hy_34 (.d (.agg (Log_.enc e_33))) rfl wa ?_
        obtain ⟨r_35,hr_36,h_27⟩:=bind_some h_27
        refine aG (bC hr_36) rfl uU rfl rfl rfl rfl wa (aL (vB (decide (r_35<0))) wa rfl (aa (vB (decide (r_35<0))) (af ?_)))
        obtain rfl:=ae h_27
        exact cu
       ·refine aD rfl hc_28 wz (ai (ai (ai (ai (ai (ai (ai (ai (ai (ai (ai (ai (aa (vB false) (af ?_))))))))))))))
        obtain rfl:=ae h_27
        exact cu
      ·rintro ⟨⟩ _ sl_ H_ hp_ hq_
       refine aJ _ hp_ hq_ ?_
       rcases ah hc_22 with⟨hc_37,hc_22⟩|⟨hc_37,hc_22⟩
       ·refine aB rfl hc_37 (ay (au (aI (aQ (aa (dV (ak 0) 6 s_21.1) (aa (vI s_21.2) (aa (dV (ak 0) 6 s_21.1) (aa (vI s_21.2) (aa (vI (w64 (s_21.2-1))) (aa (dV (ak 0) 6 s_21.1) (aa (vI s_21.2) (aa (vI (w64 (s_21.2-1))) ?_))))))))))))
        obtain ⟨_,hi_38,hc_22⟩:=bind_some hc_22
        refine aO bg rfl rfl (aW hi_38) (aM hi_38) wz ?_
        obtain ⟨e_39,hy_40,hc_22⟩:=bind_some hc_22
        refine aZ 9 0 (.inr (by kernel_rfl)) (λ_ _ ag=>trivial) bf bL rfl rfl hy_40 (.d (.agg (Log_.enc e_39))) rfl wz (aa (dV (ak 0) 6 s_21.1) (aa (vI s_21.2) ?_))
        obtain ⟨_,hi_41,hc_22⟩:=bind_some hc_22
        refine aO bg rfl rfl (aW hi_41) (aM hi_41) wz ?_
        obtain ⟨e_42,hy_43,hc_22⟩:=bind_some hc_22
        refine aZ 13 0 (.inr (by kernel_rfl)) (λ_ _ ag=>⟨.inl ⟨rfl,rfl⟩,trivial⟩) bf bL rfl rfl hy_43 (.d (.agg (Log_.enc e_42))) rfl wz ?_
        obtain ⟨_,hi_44,hc_22⟩:=bind_some hc_22
        refine aO bg rfl rfl (aW hi_44) (aM hi_44) wz ?_
        obtain ⟨e_45,hy_46,hc_22⟩:=bind_some hc_22
        refine cO 15 (.inr (by kernel_rfl)) (λ_ _ ag=>⟨.inr (.inr (by kernel_rfl)),⟨.inr (.inr (by kernel_rfl)),trivial⟩⟩) 0 bf rfl rfl hy_46 e_39 rfl wz (aF (v':=(dV (ak 0) 6 (s_21.1.set (0+(s_21.2).toNat) e_39))) 0 rfl (ax (by simp)) (aF (v':=(dV (ak 0) 6 (s_21.1.set (0+(s_21.2).toNat) e_39))) 37 rfl (ax (by simp)) (aF (v':=(dV (ak 0) 6 (s_21.1.set (0+(s_21.2).toNat) e_39))) 39 rfl (ax (by simp)) (aF (v':=(dV (ak 0) 6 (s_21.1.set (0+(s_21.2).toNat) e_39))) 42 rfl (ax (by simp)) (aF (v':=(dV (ak 0) 6 (s_21.1.set (0+(s_21.2).toNat) e_39))) 47 rfl (ax (by simp)) ?_)))))
        obtain ⟨_,hi_47,hc_22⟩:=bind_some hc_22
        refine aO bg rfl rfl (aW hi_47) (aM hi_47) wz ?_
        obtain ⟨e_48,hy_49,hc_22⟩:=bind_some hc_22
        refine cO 17 (.inr (by kernel_rfl)) (λ_ _ ag=>⟨.inr (.inr (by kernel_rfl)),⟨.inr (.inr (by kernel_rfl)),⟨.inr (.inr (by kernel_rfl)),trivial⟩⟩⟩) 0 bf rfl rfl hy_49 e_42 rfl wz (aF (v':=(dV (ak 0) 6 ((s_21.1.set (0+(s_21.2).toNat) e_39).set (0+((w64 (s_21.2-1))).toNat) e_42))) 0 rfl (ax (by simp)) (aF (v':=(dV (ak 0) 6 ((s_21.1.set (0+(s_21.2).toNat) e_39).set (0+((w64 (s_21.2-1))).toNat) e_42))) 37 rfl (ax (by simp)) (aF (v':=(dV (ak 0) 6 ((s_21.1.set (0+(s_21.2).toNat) e_39).set (0+((w64 (s_21.2-1))).toNat) e_42))) 39 rfl (ax (by simp)) (aF (v':=(dV (ak 0) 6 ((s_21.1.set (0+(s_21.2).toNat) e_39).set (0+((w64 (s_21.2-1))).toNat) e_42))) 42 rfl (ax (by simp)) (aF (v':=(dV (ak 0) 6 ((s_21.1.set (0+(s_21.2).toNat) e_39).set (0+((w64 (s_21.2-1))).toNat) e_42))) 47 rfl (ax (by simp)) (af (av (aa (vI s_21.2) (aa (vI (w64 (s_21.2-1))) (aa (vI (w64 (s_21.2-1))) (af ?_)))))))))))
        obtain rfl:=ae hc_22
        exact aK (k_16,(((s_21.1.set (0+(s_21.2).toNat) e_39).set (0+((w64 (s_21.2-1))).toNat) e_42),(w64 (s_21.2-1)))) hL_23 (ls_ _) rfl (aC rfl)
       ·refine aA rfl hc_37 (aV ?_)
        obtain rfl:=ae hc_22
        obtain rfl:=ae hL_23
        exact aX ((s_21.1,s_21.2)) rfl rfl (aC rfl)
    ·rintro s_21 ho_ sl_ H_ hp_ hq_
     subst ho_
     refine aJ _ hp_ hq_ (av (aa (vI s_10.2) (aa (vI (w64 (s_10.2+1))) (aa (vI (w64 (s_10.2+1))) (af ?_)))))
     obtain rfl:=ae hc_11
     exact aK (k_5,(s_21.1,(w64 (s_10.2+1)))) hL_12 (ls_ _) rfl (aC rfl)
   ·refine aA rfl hc_15 (aV ?_)
    obtain rfl:=ae hc_11
    obtain rfl:=ae hL_12
    exact aX ((s_10.1,s_10.2)) rfl rfl (aC rfl)
 ·rintro s_10 ho_ sl_ H_ hp_ hq_
  subst ho_
  show lJ _ _ _ _ _ _ _ _
  obtain rfl:=ae hF
  exact uB (H0:=([((ak 0),gB 6 Log_.enc s_10.1)]:Hp)) (sl':=envS []) hq_ (jO (bs:=([]:List Box)) (os:=([]:List Box)) (xs:=data_1) (o:=gB 6 Log_.enc s_10.1) (.inl rfl) [] trivial rfl rfl rfl rfl rfl (by kernel_rfl) bM rfl)
theorem gz {data_1:(List Log_)} {a_2:Int} {b_3:Int} {n_4:Int} {r:(List Log_)} (hF:dh data_1 a_2 b_3 n_4=some r) :
  FnM Tryz.prog 93 [(dV (ak 0) 6 data_1),(vI a_2),(vI b_3),(vI n_4),(.fn 28 [])] (([]:List Box)++gI 6 Log_.enc data_1) (.tup []) (([]:List Box).map some++gT data_1 (gB 6 Log_.enc r)):=by
 refine FnM.of_wHv ⟨Tryz.prog,38,[],[]⟩ rfl Tryz.func93 rfl rfl (lb_ rfl) (by kernel_rfl) ?_
 unfold dh at hF
 refine aj (aa (vI 0) (af ?_))
 obtain ⟨o_14,hj_15,hF⟩:=bind_some hF
 obtain ⟨nq_29,hj_15⟩:=aP hj_15
 refine aU (λ(s_11:(List Log_)×Int)=>[]) (λ(s_11:(List Log_)×Int)=>[((ak 0),gB 6 Log_.enc s_11.1)]) (λ(k_6:Nat)=>(λ(s_11:(List Log_)×Int)=>[(0,(dV (ak 0) 6 s_11.1)),(1,(vI a_2)),(2,(vI b_3)),(3,(vI n_4)),(10,(vI s_11.2))])) (λs=>gH n_4 b_3 a_2 s) o_14 nq_29 (data_1,0) hj_15 rfl (aC rfl) ?_ ?_
 ·rintro ⟨k_6,s_11⟩ hL_13
  dsimp only at hL_13
  cases k_6 with
  | zero=>cases hL_13
  | succ k_6 =>
   obtain ⟨c_,hc_12,hL_13⟩:=bind_some hL_13
   unfold gH at hc_12
   refine au (aj (aa (vI s_11.2) (aa (vI n_4) (aa (vB (decide (s_11.2<n_4))) (af ?_)))))
   rcases ah hc_12 with⟨hc_16,hc_12⟩|⟨hc_16,hc_12⟩
   ·refine aB rfl hc_16 (ay (au (aI (aQ (aa (dV (ak 0) 6 s_11.1) (aa (vI a_2) (aa (vI s_11.2) (aa (vI (w64 (a_2+s_11.2))) (aa (dV (ak 0) 6 s_11.1) (aa (vI b_3) (aa (vI s_11.2) (aa (vI (w64 (b_3+s_11.2))) (aa (dV (ak 0) 6 s_11.1) (aa (vI b_3) (aa (vI s_11.2) (aa (vI (w64 (b_3+s_11.2))) ?_))))))))))))))))
    obtain ⟨_,hi_17,hc_12⟩:=bind_some hc_12
    refine aO bg rfl rfl (aW hi_17) (aM hi_17) wz ?_
    obtain ⟨e_18,hy_19,hc_12⟩:=bind_some hc_12
    refine aZ 13 0 (.inr (by kernel_rfl)) (λ_ _ ag=>trivial) bf bL rfl rfl hy_19 (.d (.agg (Log_.enc e_18))) rfl wz (aa (dV (ak 0) 6 s_11.1) (aa (vI a_2) (aa (vI s_11.2) (aa (vI (w64 (a_2+s_11.2))) ?_))))
    obtain ⟨_,hi_20,hc_12⟩:=bind_some hc_12
    refine aO bg rfl rfl (aW hi_20) (aM hi_20) wz ?_
    obtain ⟨e_21,hy_22,hc_12⟩:=bind_some hc_12
    refine aZ 19 0 (.inr (by kernel_rfl)) (λ_ _ ag=>⟨.inl ⟨rfl,rfl⟩,trivial⟩) bf bL rfl rfl hy_22 (.d (.agg (Log_.enc e_21))) rfl wz ?_
    obtain ⟨_,hi_23,hc_12⟩:=bind_some hc_12
    refine aO bg rfl rfl (aW hi_23) (aM hi_23) wz ?_
    obtain ⟨e_24,hy_25,hc_12⟩:=bind_some hc_12
    refine cO 21 (.inr (by kernel_rfl)) (λ_ _ ag=>⟨.inr (.inr (by kernel_rfl)),⟨.inr (.inr (by kernel_rfl)),trivial⟩⟩) 0 bf rfl rfl hy_25 e_18 rfl wz (aF (v':=(dV (ak 0) 6 (s_11.1.set (0+((w64 (a_2+s_11.2))).toNat) e_18))) 0 rfl (ax (by simp)) (aF (v':=(dV (ak 0) 6 (s_11.1.set (0+((w64 (a_2+s_11.2))).toNat) e_18))) 16 rfl (ax (by simp)) (aF (v':=(dV (ak 0) 6 (s_11.1.set (0+((w64 (a_2+s_11.2))).toNat) e_18))) 20 rfl (ax (by simp)) (aF (v':=(dV (ak 0) 6 (s_11.1.set (0+((w64 (a_2+s_11.2))).toNat) e_18))) 24 rfl (ax (by simp)) (aF (v':=(dV (ak 0) 6 (s_11.1.set (0+((w64 (a_2+s_11.2))).toNat) e_18))) 30 rfl (ax (by simp)) ?_)))))
    obtain ⟨_,hi_26,hc_12⟩:=bind_some hc_12
    refine aO bg rfl rfl (aW hi_26) (aM hi_26) wz ?_
    obtain ⟨e_27,hy_28,hc_12⟩:=bind_some hc_12
    refine cO 23 (.inr (by kernel_rfl)) (λ_ _ ag=>⟨.inr (.inr (by kernel_rfl)),⟨.inr (.inr (by kernel_rfl)),⟨.inr (.inr (by kernel_rfl)),trivial⟩⟩⟩) 0 bf rfl rfl hy_28 e_21 rfl wz (aF (v':=(dV (ak 0) 6 ((s_11.1.set (0+((w64 (a_2+s_11.2))).toNat) e_18).set (0+((w64 (b_3+s_11.2))).toNat) e_21))) 0 rfl (ax (by simp)) (aF (v':=(dV (ak 0) 6 ((s_11.1.set (0+((w64 (a_2+s_11.2))).toNat) e_18).set (0+((w64 (b_3+s_11.2))).toNat) e_21))) 16 rfl (ax (by simp)) (aF (v':=(dV (ak 0) 6 ((s_11.1.set (0+((w64 (a_2+s_11.2))).toNat) e_18).set (0+((w64 (b_3+s_11.2))).toNat) e_21))) 20 rfl (ax (by simp)) (aF (v':=(dV (ak 0) 6 ((s_11.1.set (0+((w64 (a_2+s_11.2))).toNat) e_18).set (0+((w64 (b_3+s_11.2))).toNat) e_21))) 24 rfl (ax (by simp)) (aF (v':=(dV (ak 0) 6 ((s_11.1.set (0+((w64 (a_2+s_11.2))).toNat) e_18).set (0+((w64 (b_3+s_11.2))).toNat) e_21))) 30 rfl (ax (by simp)) (af (av (aa (vI s_11.2) (aa (vI (w64 (s_11.2+1))) (aa (vI (w64 (s_11.2+1))) (af ?_)))))))))))
    obtain rfl:=ae hc_12
    exact aK (k_6,(((s_11.1.set (0+((w64 (a_2+s_11.2))).toNat) e_18).set (0+((w64 (b_3+s_11.2))).toNat) e_21),(w64 (s_11.2+1)))) hL_13 (ls_ _) rfl (aC rfl)
   ·refine aA rfl hc_16 (aV ?_)
    obtain rfl:=ae hc_12
    obtain rfl:=ae hL_13
    exact aX ((s_11.1,s_11.2)) rfl rfl (aC rfl)
 ·rintro s_11 ho_ sl_ H_ hp_ hq_
  subst ho_
  show lJ _ _ _ _ _ _ _ _
  obtain rfl:=ae hF
  exact uB (H0:=([((ak 0),gB 6 Log_.enc s_11.1)]:Hp)) (sl':=envS []) hq_ (jO (bs:=([]:List Box)) (os:=([]:List Box)) (xs:=data_1) (o:=gB 6 Log_.enc s_11.1) (.inl rfl) [] trivial rfl rfl rfl rfl rfl (by kernel_rfl) bM rfl)
theorem dP {data_1:(List Log_)} {a_2:Int} {m_3:Int} {b_4:Int} {r:(List Log_)} (hF:cz data_1 a_2 m_3 b_4=some r) :
  FnM Tryz.prog 76 [(dV (ak 0) 6 data_1),(vI a_2),(vI m_3),(vI b_4),(.fn 28 [])] (([]:List Box)++gI 6 Log_.enc data_1) (.tup []) (([]:List Box).map some++gT data_1 (gB 6 Log_.enc r)):=by
 refine FnM.of_wHv ⟨Tryz.prog,58,[],[]⟩ rfl Tryz.func76 rfl rfl (lb_ rfl) (by kernel_rfl) ?_
 unfold cz at hF
 refine aj (aa (vI m_3) (aa (vI a_2) (aa (vI (w64 (m_3-a_2))) (aa (vI (w64 (m_3-a_2))) (af (aj (aa (vI b_4) (aa (vI m_3) (aa (vI (w64 (b_4-m_3))) (aa (vI (w64 (b_4-m_3))) (af (au ?_))))))))))))
 obtain ⟨o_14,hj_15,hF⟩:=bind_some hF
 obtain ⟨nq_27,hj_15⟩:=aP hj_15
 refine aU (λ(s_11:(List Log_)×Int×Int)=>[(0,(dV (ak 0) 6 s_11.1)),(2,(vI m_3)),(4,(.fn 28 [])),(10,(vI s_11.2.1))]) (λ(s_11:(List Log_)×Int×Int)=>[((ak 0),gB 6 Log_.enc s_11.1)]) (λ(k_6:Nat)=>(λ(s_11:(List Log_)×Int×Int)=>[(0,(dV (ak 0) 6 s_11.1)),(2,(vI m_3)),(4,(.fn 28 [])),(10,(vI s_11.2.1)),(11,(vI s_11.2.2))])) (λs=>iK m_3 s) o_14 nq_27 (data_1,(w64 (m_3-a_2)),(w64 (b_4-m_3))) hj_15 rfl (aC rfl) ?_ ?_
 ·rintro ⟨k_6,s_11⟩ hL_13
  dsimp only at hL_13
  cases k_6 with
  | zero=>cases hL_13
  | succ k_6 =>
   obtain ⟨c_,hc_12,hL_13⟩:=bind_some hL_13
   unfold iK at hc_12
   refine au (aj (aa (vI s_11.2.1) (aa (vI s_11.2.2) (aa (vB (s_11.2.1 != s_11.2.2)) (af ?_)))))
   rcases ah hc_12 with⟨hc_16,hc_12⟩|⟨hc_16,hc_12⟩
   ·refine aB rfl hc_16 (ay (aI (aj (aa (vI s_11.2.1) (aa (vI s_11.2.2) (aa (vB (decide (s_11.2.1>s_11.2.2))) (af ?_)))))))
    rcases ah hc_12 with⟨hc_17,hc_12⟩|⟨hc_17,hc_12⟩
    ·refine aB rfl hc_17 (aj (aa (dV (ak 0) 6 s_11.1) (aa (vI m_3) (aa (vI s_11.2.1) (aa (vI (w64 (m_3-s_11.2.1))) (aa (vI m_3) (aa (vI s_11.2.2) (aa (.fn 28 []) ?_))))))))
     obtain ⟨r_18,hr_19,hc_12⟩:=bind_some hc_12
     obtain ⟨_,hs_20,hc_12⟩:=bind_some hc_12
     replace hs_20:=bN hs_20
     refine bX 0 [] 0 0 il ft (gz hr_19) rfl Hm rfl rfl rfl (by kernel_rfl) rfl (.inr (.inl rfl)) rfl (by kernel_rfl) (by kernel_rfl) (by kernel_rfl) (by kernel_rfl) rfl (by decide) (by kernel_rfl) bM (jb hs_20) wz ([((ak 0),gB 6 Log_.enc r_18)]:Hp) (by kernel_rfl) (aF (v':=(dV (ak 0) 6 r_18)) 0 rfl (ax hs_20.symm) (aF (v':=(dV (ak 0) 6 r_18)) 24 rfl (ax hs_20.symm) (af (av (aa (vI s_11.2.1) (aa (vI s_11.2.2) (aa (vI (w64 (s_11.2.1-s_11.2.2))) (aa (vI (w64 (s_11.2.1-s_11.2.2))) (af ?_)))))))))
     obtain rfl:=ae hc_12
     exact aK (k_6,(r_18,(w64 (s_11.2.1-s_11.2.2)),s_11.2.2)) hL_13 (ls_ _) rfl (aC rfl)
    ·refine aA rfl hc_17 (aj (aa (dV (ak 0) 6 s_11.1) (aa (vI m_3) (aa (vI s_11.2.1) (aa (vI (w64 (m_3-s_11.2.1))) (aa (vI m_3) (aa (vI s_11.2.2) (aa (vI (w64 (m_3+s_11.2.2))) (aa (vI s_11.2.1) (aa (vI (w64 ((w64 (m_3+s_11.2.2))-s_11.2.1))) (aa (vI s_11.2.1) (aa (.fn 28 []) ?_))))))))))))
     obtain ⟨r_21,hr_22,hc_12⟩:=bind_some hc_12
     obtain ⟨_,hs_23,hc_12⟩:=bind_some hc_12
     replace hs_23:=bN hs_23
     refine bX 0 [] 0 0 il ft (gz hr_22) rfl Hm rfl rfl rfl (by kernel_rfl) rfl (.inr (.inl rfl)) rfl (by kernel_rfl) (by kernel_rfl) (by kernel_rfl) (by kernel_rfl) rfl (by decide) (by kernel_rfl) bM (jb hs_23) wz ([((ak 0),gB 6 Log_.enc r_21)]:Hp) (by kernel_rfl) (aF (v':=(dV (ak 0) 6 r_21)) 0 rfl (ax hs_23.symm) (aF (v':=(dV (ak 0) 6 r_21)) 35 rfl (ax hs_23.symm) (af (av (aa (vI s_11.2.2) (aa (vI s_11.2.1) (aa (vI (w64 (s_11.2.2-s_11.2.1))) (aa (vI (w64 (s_11.2.2-s_11.2.1))) (af ?_)))))))))
     obtain rfl:=ae hc_12
     exact aK (k_6,(r_21,s_11.2.1,(w64 (s_11.2.2-s_11.2.1)))) hL_13 (ls_ _) rfl (aC rfl)
   ·refine aA rfl hc_16 (aV ?_)
    obtain rfl:=ae hc_12
    obtain rfl:=ae hL_13
    exact aX ((s_11.1,s_11.2.1,s_11.2.2)) rfl rfl (aC rfl)
 ·rintro s_11 ho_ sl_ H_ hp_ hq_
  subst ho_
  refine aJ _ hp_ hq_ (av (aa (dV (ak 0) 6 s_11.1) (aa (vI m_3) (aa (vI s_11.2.1) (aa (vI (w64 (m_3-s_11.2.1))) (aa (vI m_3) (aa (vI s_11.2.1) (aa (.fn 28 []) ?_))))))))
  obtain ⟨r_24,hr_25,hF⟩:=bind_some hF
  obtain ⟨_,hs_26,hF⟩:=bind_some hF
  replace hs_26:=bN hs_26
  refine bX 0 [] 0 0 il ft (gz hr_25) rfl Hm rfl rfl rfl (by kernel_rfl) rfl (.inr (.inl rfl)) rfl (by kernel_rfl) (by kernel_rfl) (by kernel_rfl) (by kernel_rfl) rfl (by decide) (by kernel_rfl) bM (jb hs_26) wz ([((ak 0),gB 6 Log_.enc r_24)]:Hp) (by kernel_rfl) (aF (v':=(dV (ak 0) 6 r_24)) 0 rfl (ax hs_26.symm) (aF (v':=(dV (ak 0) 6 r_24)) 50 rfl (ax hs_26.symm) (af ?_)))
  show lJ _ _ _ _ _ _ _ _
  obtain rfl:=ae hF
  exact jO (bs:=([]:List Box)) (os:=([]:List Box)) (xs:=data_1) (o:=gB 6 Log_.enc r_24) (.inl rfl) [] trivial rfl rfl rfl rfl rfl (by kernel_rfl) bM rfl
theorem jm {data_1:(List Log_)} {a_2:Int} {m_3:Int} {b_4:Int} {r:(List Log_)} (hF:dC data_1 a_2 m_3 b_4=some r) :
  FnM Tryz.prog 57 [(dV (ak 0) 6 data_1),(vI a_2),(vI m_3),(vI b_4),(.fn 28 [])] (([]:List Box)++gI 6 Log_.enc data_1) (.tup []) (([]:List Box).map some++gT data_1 (gB 6 Log_.enc r)):=by
 refine FnM.of_wHv ⟨Tryz.prog,220,[],[]⟩ rfl Tryz.func57 rfl rfl (lb_ rfl) (by kernel_rfl) ?_
 unfold dC at hF
 refine au (aj (aa (vI m_3) (aa (vI a_2) (aa (vI (w64 (m_3-a_2))) (aa (vB ((w64 (m_3-a_2))==1)) (af ?_))))))
 rcases ah hF with⟨hc_6,hF⟩|⟨hc_6,hF⟩
 ·refine aB rfl hc_6 (aj (aa (vI m_3) (aa (vI m_3) (af (aj (aa (vI b_4) (aa (vI b_4) (af (au ?_)))))))))
  obtain ⟨o_15,hj_16,hF⟩:=bind_some hF
  obtain ⟨nq_53,hj_16⟩:=aP hj_16
  refine aU (λ(s_12:Int×Int)=>[(0,(dV (ak 0) 6 data_1)),(1,(vI a_2)),(10,(vI s_12.1))]) (λ(s_12:Int×Int)=>[((ak 0),gB 6 Log_.enc data_1)]) (λ(k_7:Nat)=>(λ(s_12:Int×Int)=>[(0,(dV (ak 0) 6 data_1)),(1,(vI a_2)),(4,(.fn 28 [])),(10,(vI s_12.1)),(11,(vI s_12.2))])) (λs=>fe data_1 a_2 s) o_15 nq_53 (m_3,b_4) hj_16 rfl (aC rfl) ?_ ?_
  ·rintro ⟨k_7,s_12⟩ hL_14
   dsimp only at hL_14
   cases k_7 with
   | zero=>cases hL_14
   | succ k_7 =>
    obtain ⟨c_,hc_13,hL_14⟩:=bind_some hL_14
    unfold fe at hc_13
    refine au (aj (aa (vI s_12.1) (aa (vI s_12.2) (aa (vB (decide (s_12.1<s_12.2))) (af ?_)))))
    rcases ah hc_13 with⟨hc_17,hc_13⟩|⟨hc_17,hc_13⟩
    ·refine aB rfl hc_17 (ay (aI (aj (aa (vI s_12.1) (aa (vI s_12.2) (aa (vI (w64 (s_12.1+s_12.2))) (bB un3 ib rfl wz ?_)))))))
     obtain ⟨q_18,hz_19,hc_13⟩:=bind_some hc_13
     refine jI rfl rfl hz_19 wz (bB ib un3 rfl wz (aa (vI (w64 q_18)) (af (au (aQ (aa (.fn 28 []) (aa (dV (ak 0) 6 data_1) (aa (vI (w64 q_18)) ?_))))))))
     obtain ⟨_,hi_20,hc_13⟩:=bind_some hc_13
     refine aO bg rfl rfl (aW hi_20) (aM hi_20) wz ?_
     obtain ⟨e_21,hy_22,hc_13⟩:=bind_some hc_13
     refine aZ 4 0 (.inr (by kernel_rfl)) (λ_ _ ag=>trivial) bf bL rfl rfl hy_22 (.d (.agg (Log_.enc e_21))) rfl wz (aa (dV (ak 0) 6 data_1) (aa (vI a_2) ?_))
     obtain ⟨_,hi_23,hc_13⟩:=bind_some hc_13
     refine aO bg rfl rfl (aW hi_23) (aM hi_23) wz ?_
     obtain ⟨e_24,hy_25,hc_13⟩:=bind_some hc_13
     refine aZ 8 0 (.inr (by kernel_rfl)) (λ_ _ ag=>⟨.inl ⟨rfl,rfl⟩,trivial⟩) bf bL rfl rfl hy_25 (.d (.agg (Log_.enc e_24))) rfl wz ?_
     obtain ⟨r_26,hr_27,hc_13⟩:=bind_some hc_13
     refine aG (bC hr_27) rfl uU rfl rfl rfl rfl wz (aa (vB (decide (r_26<0))) (af ?_))
     rcases ah hc_13 with⟨hc_28,hc_13⟩|⟨hc_28,hc_13⟩
     ·refine aB rfl hc_28 (av (aa (vI (w64 q_18)) (aa (vI (w64 ((w64 q_18)+1))) (aa (vI (w64 ((w64 q_18)+1))) (af ?_)))))
      obtain rfl:=ae hc_13
      exact aK (k_7,((w64 ((w64 q_18)+1)),s_12.2)) hL_14 (ls_ _) rfl (aC rfl)
     ·refine aA rfl hc_28 (av (aa (vI (w64 q_18)) (aa (vI (w64 q_18)) (af ?_))))
      obtain rfl:=ae hc_13
      exact aK (k_7,(s_12.1,(w64 q_18))) hL_14 (ls_ _) rfl (aC rfl)
    ·refine aA rfl hc_17 (aV ?_)
     obtain rfl:=ae hc_13
     obtain rfl:=ae hL_14
     exact aX ((s_12.1,s_12.2)) rfl rfl (aC rfl)
  ·rintro s_12 ho_ sl_ H_ hp_ hq_
   subst ho_
   refine aJ _ hp_ hq_ (au (aj (aa (vI a_2) (aa (vI a_2) (af ?_)))))
   obtain ⟨o_37,hj_38,hF⟩:=bind_some hF
   obtain ⟨nq_52,hj_38⟩:=aP hj_38
   refine aU (λ(s_34:(List Log_)×Int)=>[]) (λ(s_34:(List Log_)×Int)=>[((ak 0),gB 6 Log_.enc s_34.1)]) (λ(k_29:Nat)=>(λ(s_34:(List Log_)×Int)=>[(0,(dV (ak 0) 6 s_34.1)),(10,(vI s_12.1)),(13,(vI s_34.2))])) (λs=>fA s_12 s) o_37 nq_52 (data_1,a_2) hj_38 rfl (aC rfl) ?_ ?_
   ·rintro ⟨k_29,s_34⟩ hL_36
    dsimp only at hL_36
    cases k_29 with
    | zero=>cases hL_36
    | succ k_29 =>
     obtain ⟨c_,hc_35,hL_36⟩:=bind_some hL_36
     unfold fA at hc_35
     refine au (aj (aa (vI s_34.2) (aa (vI s_12.1) (aa (vI (w64 (s_12.1-1))) (aa (vB (decide (s_34.2<(w64 (s_12.1-1))))) (af ?_))))))
     rcases ah hc_35 with⟨hc_39,hc_35⟩|⟨hc_39,hc_35⟩
     ·refine aB rfl hc_39 (ay (au (aI (aQ (aa (dV (ak 0) 6 s_34.1) (aa (vI s_34.2) (aa (dV (ak 0) 6 s_34.1) (aa (vI s_34.2) (aa (vI (w64 (s_34.2+1))) (aa (dV (ak 0) 6 s_34.1) (aa (vI s_34.2) (aa (vI (w64 (s_34.2+1))) ?_))))))))))))
      obtain ⟨_,hi_40,hc_35⟩:=bind_some hc_35
      refine aO bg rfl rfl (aW hi_40) (aM hi_40) wz ?_
      obtain ⟨e_41,hy_42,hc_35⟩:=bind_some hc_35
      refine aZ 9 0 (.inr (by kernel_rfl)) (λ_ _ ag=>trivial) bf bL rfl rfl hy_42 (.d (.agg (Log_.enc e_41))) rfl wz (aa (dV (ak 0) 6 s_34.1) (aa (vI s_34.2) ?_))
      obtain ⟨_,hi_43,hc_35⟩:=bind_some hc_35
      refine aO bg rfl rfl (aW hi_43) (aM hi_43) wz ?_
      obtain ⟨e_44,hy_45,hc_35⟩:=bind_some hc_35
      refine aZ 13 0 (.inr (by kernel_rfl)) (λ_ _ ag=>⟨.inl ⟨rfl,rfl⟩,trivial⟩) bf bL rfl rfl hy_45 (.d (.agg (Log_.enc e_44))) rfl wz ?_
      obtain ⟨_,hi_46,hc_35⟩:=bind_some hc_35
      refine aO bg rfl rfl (aW hi_46) (aM hi_46) wz ?_
      obtain ⟨e_47,hy_48,hc_35⟩:=bind_some hc_35
      refine cO 15 (.inr (by kernel_rfl)) (λ_ _ ag=>⟨.inr (.inr (by kernel_rfl)),⟨.inr (.inr (by kernel_rfl)),trivial⟩⟩) 0 bf rfl rfl hy_48 e_41 rfl wz (aF (v':=(dV (ak 0) 6 (s_34.1.set (0+(s_34.2).toNat) e_41))) 0 rfl (ax (by simp)) (aF (v':=(dV (ak 0) 6 (s_34.1.set (0+(s_34.2).toNat) e_41))) 61 rfl (ax (by simp)) (aF (v':=(dV (ak 0) 6 (s_34.1.set (0+(s_34.2).toNat) e_41))) 63 rfl (ax (by simp)) (aF (v':=(dV (ak 0) 6 (s_34.1.set (0+(s_34.2).toNat) e_41))) 66 rfl (ax (by simp)) (aF (v':=(dV (ak 0) 6 (s_34.1.set (0+(s_34.2).toNat) e_41))) 71 rfl (ax (by simp)) ?_)))))
      obtain ⟨_,hi_49,hc_35⟩:=bind_some hc_35
      refine aO bg rfl rfl (aW hi_49) (aM hi_49) wz ?_
      obtain ⟨e_50,hy_51,hc_35⟩:=bind_some hc_35
      refine cO 17 (.inr (by kernel_rfl)) (λ_ _ ag=>⟨.inr (.inr (by kernel_rfl)),⟨.inr (.inr (by kernel_rfl)),⟨.inr (.inr (by kernel_rfl)),trivial⟩⟩⟩) 0 bf rfl rfl hy_51 e_44 rfl wz (aF (v':=(dV (ak 0) 6 ((s_34.1.set (0+(s_34.2).toNat) e_41).set (0+((w64 (s_34.2+1))).toNat) e_44))) 0 rfl (ax (by simp)) (aF (v':=(dV (ak 0) 6 ((s_34.1.set (0+(s_34.2).toNat) e_41).set (0+((w64 (s_34.2+1))).toNat) e_44))) 61 rfl (ax (by simp)) (aF (v':=(dV (ak 0) 6 ((s_34.1.set (0+(s_34.2).toNat) e_41).set (0+((w64 (s_34.2+1))).toNat) e_44))) 63 rfl (ax (by simp)) (aF (v':=(dV (ak 0) 6 ((s_34.1.set (0+(s_34.2).toNat) e_41).set (0+((w64 (s_34.2+1))).toNat) e_44))) 66 rfl (ax (by simp)) (aF (v':=(dV (ak 0) 6 ((s_34.1.set (0+(s_34.2).toNat) e_41).set (0+((w64 (s_34.2+1))).toNat) e_44))) 71 rfl (ax (by simp)) (af (av (aa (vI s_34.2) (aa (vI (w64 (s_34.2+1))) (aa (vI (w64 (s_34.2+1))) (af ?_)))))))))))
      obtain rfl:=ae hc_35
      exact aK (k_29,(((s_34.1.set (0+(s_34.2).toNat) e_41).set (0+((w64 (s_34.2+1))).toNat) e_44),(w64 (s_34.2+1)))) hL_36 (ls_ _) rfl (aC rfl)
     ·refine aA rfl hc_39 (aV ?_)
      obtain rfl:=ae hc_35
      obtain rfl:=ae hL_36
      exact aX ((s_34.1,s_34.2)) rfl rfl (aC rfl)
   ·rintro s_34 ho_ sl_ H_ hp_ hq_
    subst ho_
    refine aJ _ hp_ hq_ ?_
    obtain rfl:=ae hF
    exact aN (jO (bs:=([]:List Box)) (os:=([]:List Box)) (xs:=data_1) (o:=gB 6 Log_.enc s_34.1) (.inr rfl) [] trivial rfl rfl rfl rfl rfl (by kernel_rfl) bM rfl)
 ·refine aA rfl hc_6 (ay (au (aj (aa (vI b_4) (aa (vI m_3) (aa (vI (w64 (b_4-m_3))) (aa (vB ((w64 (b_4-m_3))==1)) (af ?_))))))))
  rcases ah hF with⟨hc_54,hF⟩|⟨hc_54,hF⟩
  ·refine aB rfl hc_54 (aj (aa (vI a_2) (aa (vI a_2) (af (aj (aa (vI m_3) (aa (vI m_3) (af (au ?_)))))))))
   obtain ⟨o_63,hj_64,hF⟩:=bind_some hF
   obtain ⟨nq_101,hj_64⟩:=aP hj_64
   refine aU (λ(s_60:Int×Int)=>[(0,(dV (ak 0) 6 data_1)),(2,(vI m_3)),(14,(vI s_60.1))]) (λ(s_60:Int×Int)=>[((ak 0),gB 6 Log_.enc data_1)]) (λ(k_55:Nat)=>(λ(s_60:Int×Int)=>[(0,(dV (ak 0) 6 data_1)),(2,(vI m_3)),(4,(.fn 28 [])),(14,(vI s_60.1)),(15,(vI s_60.2))])) (λs=>eZ m_3 data_1 s) o_63 nq_101 (a_2,m_3) hj_64 rfl (aC rfl) ?_ ?_
   ·rintro ⟨k_55,s_60⟩ hL_62
    dsimp only at hL_62
    cases k_55 with
    | zero=>cases hL_62
    | succ k_55 =>
     obtain ⟨c_,hc_61,hL_62⟩:=bind_some hL_62
     unfold eZ at hc_61
     refine au (aj (aa (vI s_60.1) (aa (vI s_60.2) (aa (vB (decide (s_60.1<s_60.2))) (af ?_)))))
     rcases ah hc_61 with⟨hc_65,hc_61⟩|⟨hc_65,hc_61⟩
     ·refine aB rfl hc_65 (ay (aI (aj (aa (vI s_60.1) (aa (vI s_60.2) (aa (vI (w64 (s_60.1+s_60.2))) (bB un3 ib rfl wz ?_)))))))
      obtain ⟨q_66,hz_67,hc_61⟩:=bind_some hc_61
      refine jI rfl rfl hz_67 wz (bB ib un3 rfl wz (aa (vI (w64 q_66)) (af (au (aQ (aa (.fn 28 []) (aa (dV (ak 0) 6 data_1) (aa (vI m_3) ?_))))))))
      obtain ⟨_,hi_68,hc_61⟩:=bind_some hc_61
      refine aO bg rfl rfl (aW hi_68) (aM hi_68) wz ?_
      obtain ⟨e_69,hy_70,hc_61⟩:=bind_some hc_61
      refine aZ 4 0 (.inr (by kernel_rfl)) (λ_ _ ag=>trivial) bf bL rfl rfl hy_70 (.d (.agg (Log_.enc e_69))) rfl wz (aa (dV (ak 0) 6 data_1) (aa (vI (w64 q_66)) ?_))
      obtain ⟨_,hi_71,hc_61⟩:=bind_some hc_61
      refine aO bg rfl rfl (aW hi_71) (aM hi_71) wz ?_
      obtain ⟨e_72,hy_73,hc_61⟩:=bind_some hc_61
      refine aZ 8 0 (.inr (by kernel_rfl)) (λ_ _ ag=>⟨.inl ⟨rfl,rfl⟩,trivial⟩) bf bL rfl rfl hy_73 (.d (.agg (Log_.enc e_72))) rfl wz ?_
      obtain ⟨r_74,hr_75,hc_61⟩:=bind_some hc_61
      refine aG (bC hr_75) rfl uU rfl rfl rfl rfl wz (aa (vB (decide (r_74<0))) (aa (vB (!(decide (r_74<0)))) (af ?_)))
      rcases ah hc_61 with⟨hc_76,hc_61⟩|⟨hc_76,hc_61⟩
      ·refine aB rfl hc_76 (av (aa (vI (w64 q_66)) (aa (vI (w64 ((w64 q_66)+1))) (aa (vI (w64 ((w64 q_66)+1))) (af ?_)))))
       obtain rfl:=ae hc_61
       exact aK (k_55,((w64 ((w64 q_66)+1)),s_60.2)) hL_62 (ls_ _) rfl (aC rfl)
      ·refine aA rfl hc_76 (av (aa (vI (w64 q_66)) (aa (vI (w64 q_66)) (af ?_))))
       obtain rfl:=ae hc_61
       exact aK (k_55,(s_60.1,(w64 q_66))) hL_62 (ls_ _) rfl (aC rfl)
     ·refine aA rfl hc_65 (aV ?_)
      obtain rfl:=ae hc_61
      obtain rfl:=ae hL_62
      exact aX ((s_60.1,s_60.2)) rfl rfl (aC rfl)
   ·rintro s_60 ho_ sl_ H_ hp_ hq_
    subst ho_
    refine aJ _ hp_ hq_ (au (aj (aa (vI m_3) (aa (vI m_3) (af ?_)))))
    obtain ⟨o_85,hj_86,hF⟩:=bind_some hF
    obtain ⟨nq_100,hj_86⟩:=aP hj_86
    refine aU (λ(s_82:(List Log_)×Int)=>[]) (λ(s_82:(List Log_)×Int)=>[((ak 0),gB 6 Log_.enc s_82.1)]) (λ(k_77:Nat)=>(λ(s_82:(List Log_)×Int)=>[(0,(dV (ak 0) 6 s_82.1)),(14,(vI s_60.1)),(17,(vI s_82.2))])) (λs=>eB s_60 s) o_85 nq_100 (data_1,m_3) hj_86 rfl (aC rfl) ?_ ?_
    ·rintro ⟨k_77,s_82⟩ hL_84
     dsimp only at hL_84
     cases k_77 with
     | zero=>cases hL_84
     | succ k_77 =>
      obtain ⟨c_,hc_83,hL_84⟩:=bind_some hL_84
      unfold eB at hc_83
      refine au (aj (aa (vI s_82.2) (aa (vI s_60.1) (aa (vB (decide (s_82.2>s_60.1))) (af ?_)))))
      rcases ah hc_83 with⟨hc_87,hc_83⟩|⟨hc_87,hc_83⟩
      ·refine aB rfl hc_87 (ay (au (aI (aQ (aa (dV (ak 0) 6 s_82.1) (aa (vI s_82.2) (aa (dV (ak 0) 6 s_82.1) (aa (vI s_82.2) (aa (vI (w64 (s_82.2-1))) (aa (dV (ak 0) 6 s_82.1) (aa (vI s_82.2) (aa (vI (w64 (s_82.2-1))) ?_))))))))))))
       obtain ⟨_,hi_88,hc_83⟩:=bind_some hc_83
       refine aO bg rfl rfl (aW hi_88) (aM hi_88) wz ?_
       obtain ⟨e_89,hy_90,hc_83⟩:=bind_some hc_83
       refine aZ 9 0 (.inr (by kernel_rfl)) (λ_ _ ag=>trivial) bf bL rfl rfl hy_90 (.d (.agg (Log_.enc e_89))) rfl wz (aa (dV (ak 0) 6 s_82.1) (aa (vI s_82.2) ?_))
       obtain ⟨_,hi_91,hc_83⟩:=bind_some hc_83
       refine aO bg rfl rfl (aW hi_91) (aM hi_91) wz ?_
       obtain ⟨e_92,hy_93,hc_83⟩:=bind_some hc_83
       refine aZ 13 0 (.inr (by kernel_rfl)) (λ_ _ ag=>⟨.inl ⟨rfl,rfl⟩,trivial⟩) bf bL rfl rfl hy_93 (.d (.agg (Log_.enc e_92))) rfl wz ?_
       obtain ⟨_,hi_94,hc_83⟩:=bind_some hc_83
       refine aO bg rfl rfl (aW hi_94) (aM hi_94) wz ?_
       obtain ⟨e_95,hy_96,hc_83⟩:=bind_some hc_83
       refine cO 15 (.inr (by kernel_rfl)) (λ_ _ ag=>⟨.inr (.inr (by kernel_rfl)),⟨.inr (.inr (by kernel_rfl)),trivial⟩⟩) 0 bf rfl rfl hy_96 e_89 rfl wz (aF (v':=(dV (ak 0) 6 (s_82.1.set (0+(s_82.2).toNat) e_89))) 0 rfl (ax (by simp)) (aF (v':=(dV (ak 0) 6 (s_82.1.set (0+(s_82.2).toNat) e_89))) 113 rfl (ax (by simp)) (aF (v':=(dV (ak 0) 6 (s_82.1.set (0+(s_82.2).toNat) e_89))) 115 rfl (ax (by simp)) (aF (v':=(dV (ak 0) 6 (s_82.1.set (0+(s_82.2).toNat) e_89))) 118 rfl (ax (by simp)) (aF (v':=(dV (ak 0) 6 (s_82.1.set (0+(s_82.2).toNat) e_89))) 123 rfl (ax (by simp)) ?_)))))
       obtain ⟨_,hi_97,hc_83⟩:=bind_some hc_83
       refine aO bg rfl rfl (aW hi_97) (aM hi_97) wz ?_
       obtain ⟨e_98,hy_99,hc_83⟩:=bind_some hc_83
       refine cO 17 (.inr (by kernel_rfl)) (λ_ _ ag=>⟨.inr (.inr (by kernel_rfl)),⟨.inr (.inr (by kernel_rfl)),⟨.inr (.inr (by kernel_rfl)),trivial⟩⟩⟩) 0 bf rfl rfl hy_99 e_92 rfl wz (aF (v':=(dV (ak 0) 6 ((s_82.1.set (0+(s_82.2).toNat) e_89).set (0+((w64 (s_82.2-1))).toNat) e_92))) 0 rfl (ax (by simp)) (aF (v':=(dV (ak 0) 6 ((s_82.1.set (0+(s_82.2).toNat) e_89).set (0+((w64 (s_82.2-1))).toNat) e_92))) 113 rfl (ax (by simp)) (aF (v':=(dV (ak 0) 6 ((s_82.1.set (0+(s_82.2).toNat) e_89).set (0+((w64 (s_82.2-1))).toNat) e_92))) 115 rfl (ax (by simp)) (aF (v':=(dV (ak 0) 6 ((s_82.1.set (0+(s_82.2).toNat) e_89).set (0+((w64 (s_82.2-1))).toNat) e_92))) 118 rfl (ax (by simp)) (aF (v':=(dV (ak 0) 6 ((s_82.1.set (0+(s_82.2).toNat) e_89).set (0+((w64 (s_82.2-1))).toNat) e_92))) 123 rfl (ax (by simp)) (af (av (aa (vI s_82.2) (aa (vI (w64 (s_82.2-1))) (aa (vI (w64 (s_82.2-1))) (af ?_)))))))))))
       obtain rfl:=ae hc_83
       exact aK (k_77,(((s_82.1.set (0+(s_82.2).toNat) e_89).set (0+((w64 (s_82.2-1))).toNat) e_92),(w64 (s_82.2-1)))) hL_84 (ls_ _) rfl (aC rfl)
      ·refine aA rfl hc_87 (aV ?_)
       obtain rfl:=ae hc_83
       obtain rfl:=ae hL_84
       exact aX ((s_82.1,s_82.2)) rfl rfl (aC rfl)
    ·rintro s_82 ho_ sl_ H_ hp_ hq_
     subst ho_
     refine aJ _ hp_ hq_ ?_
     obtain rfl:=ae hF
     exact aN (jO (bs:=([]:List Box)) (os:=([]:List Box)) (xs:=data_1) (o:=gB 6 Log_.enc s_82.1) (.inr rfl) [] trivial rfl rfl rfl rfl rfl (by kernel_rfl) bM rfl)
  ·refine aA rfl hc_54 (ay (aj (aa (vI a_2) (aa (vI b_4) (aa (vI (w64 (a_2+b_4))) (bB un3 ib rfl wz ?_))))))
   obtain ⟨q_102,hz_103,hF⟩:=bind_some hF
   refine jI rfl rfl hz_103 wz (bB ib un3 rfl wz (aa (vI (w64 q_102)) (af (aj (aa (vI (w64 q_102)) (aa (vI m_3) (aa (vI (w64 ((w64 q_102)+m_3))) (aa (vI (w64 ((w64 q_102)+m_3))) (af (aj (aa (vI 0) (aa (vI 0) (af (au (aj (aa (vI m_3) (aa (vI (w64 q_102)) (aa (vB (decide (m_3>(w64 q_102)))) (af ?_)))))))))))))))))))
   obtain ⟨v_104,h_105,hF⟩:=bind_some hF
   refine aH [(0,(dV (ak 0) 6 data_1)),(1,(vI a_2)),(2,(vI m_3)),(3,(vI b_4)),(4,(.fn 28 [])),(18,(vI (w64 q_102))),(19,(vI (w64 ((w64 q_102)+m_3)))),(20,(vI v_104.1)),(21,(vI v_104.2))] [((ak 0),gB 6 Log_.enc data_1)] ?_ ?_
   ·rcases ah h_105 with⟨hc_106,h_105⟩|⟨hc_106,h_105⟩
    ·refine aB rfl hc_106 (aj (aa (vI (w64 ((w64 q_102)+m_3))) (aa (vI b_4) (aa (vI (w64 ((w64 ((w64 q_102)+m_3))-b_4))) (aa (vI (w64 ((w64 ((w64 q_102)+m_3))-b_4))) (af (av (aa (vI (w64 q_102)) (aa (vI (w64 q_102)) (af ?_))))))))))
     obtain rfl:=ae h_105
     exact cu
    ·refine aA rfl hc_106 (aj (aa (vI a_2) (aa (vI a_2) (af (av (aa (vI m_3) (aa (vI m_3) (af ?_))))))))
     obtain rfl:=ae h_105
     exact cu
   ·rintro ⟨⟩ _ sl_ H_ hp_ hq_
    refine aJ _ hp_ hq_ (aj (aa (vI (w64 ((w64 q_102)+m_3))) (aa (vI (w64 ((w64 ((w64 q_102)+m_3))-1))) (aa (vI (w64 ((w64 ((w64 q_102)+m_3))-1))) (af (au ?_))))))
    obtain ⟨o_115,hj_116,hF⟩:=bind_some hF
    obtain ⟨nq_148,hj_116⟩:=aP hj_116
    refine aU (λ(s_112:Int×Int)=>[(0,(dV (ak 0) 6 data_1)),(1,(vI a_2)),(2,(vI m_3)),(3,(vI b_4)),(4,(.fn 28 [])),(18,(vI (w64 q_102))),(19,(vI (w64 ((w64 q_102)+m_3)))),(20,(vI s_112.1))]) (λ(s_112:Int×Int)=>[((ak 0),gB 6 Log_.enc data_1)]) (λ(k_107:Nat)=>(λ(s_112:Int×Int)=>[(0,(dV (ak 0) 6 data_1)),(1,(vI a_2)),(2,(vI m_3)),(3,(vI b_4)),(4,(.fn 28 [])),(18,(vI (w64 q_102))),(19,(vI (w64 ((w64 q_102)+m_3)))),(20,(vI s_112.1)),(21,(vI s_112.2)),(22,(vI (w64 ((w64 ((w64 q_102)+m_3))-1))))])) (λs=>eH q_102 m_3 data_1 s) o_115 nq_148 (v_104.1,v_104.2) hj_116 rfl (aC rfl) ?_ ?_
    ·rintro ⟨k_107,s_112⟩ hL_114
     dsimp only at hL_114
     cases k_107 with
     | zero=>cases hL_114
     | succ k_107 =>
      obtain ⟨c_,hc_113,hL_114⟩:=bind_some hL_114
      unfold eH at hc_113
      refine au (aj (aa (vI s_112.1) (aa (vI s_112.2) (aa (vB (decide (s_112.1<s_112.2))) (af ?_)))))
      rcases ah hc_113 with⟨hc_117,hc_113⟩|⟨hc_117,hc_113⟩
      ·refine aB rfl hc_117 (ay (aI (aj (aa (vI s_112.1) (aa (vI s_112.2) (aa (vI (w64 (s_112.1+s_112.2))) (bB un3 ib rfl wz ?_)))))))
       obtain ⟨q_118,hz_119,hc_113⟩:=bind_some hc_113
       refine jI rfl rfl hz_119 wz (bB ib un3 rfl wz (aa (vI (w64 q_118)) (af (au (aQ (aa (.fn 28 []) (aa (dV (ak 0) 6 data_1) (aa (vI (w64 ((w64 ((w64 q_102)+m_3))-1))) (aa (vI (w64 q_118)) (aa (vI (w64 ((w64 ((w64 ((w64 q_102)+m_3))-1))-(w64 q_118)))) ?_))))))))))
       obtain ⟨_,hi_120,hc_113⟩:=bind_some hc_113
       refine aO bg rfl rfl (aW hi_120) (aM hi_120) wz ?_
       obtain ⟨e_121,hy_122,hc_113⟩:=bind_some hc_113
       refine aZ 6 0 (.inr (by kernel_rfl)) (λ_ _ ag=>trivial) bf bL rfl rfl hy_122 (.d (.agg (Log_.enc e_121))) rfl wz (aa (dV (ak 0) 6 data_1) (aa (vI (w64 q_118)) ?_))
       obtain ⟨_,hi_123,hc_113⟩:=bind_some hc_113
       refine aO bg rfl rfl (aW hi_123) (aM hi_123) wz ?_
       obtain ⟨e_124,hy_125,hc_113⟩:=bind_some hc_113
       refine aZ 10 0 (.inr (by kernel_rfl)) (λ_ _ ag=>⟨.inl ⟨rfl,rfl⟩,trivial⟩) bf bL rfl rfl hy_125 (.d (.agg (Log_.enc e_124))) rfl wz ?_
       obtain ⟨r_126,hr_127,hc_113⟩:=bind_some hc_113
       refine aG (bC hr_127) rfl uU rfl rfl rfl rfl wz (aa (vB (decide (r_126<0))) (aa (vB (!(decide (r_126<0)))) (af ?_)))
       rcases ah hc_113 with⟨hc_128,hc_113⟩|⟨hc_128,hc_113⟩
       ·refine aB rfl hc_128 (av (aa (vI (w64 q_118)) (aa (vI (w64 ((w64 q_118)+1))) (aa (vI (w64 ((w64 q_118)+1))) (af ?_)))))
        obtain rfl:=ae hc_113
        exact aK (k_107,((w64 ((w64 q_118)+1)),s_112.2)) hL_114 (ls_ _) rfl (aC rfl)
       ·refine aA rfl hc_128 (av (aa (vI (w64 q_118)) (aa (vI (w64 q_118)) (af ?_))))
        obtain rfl:=ae hc_113
        exact aK (k_107,(s_112.1,(w64 q_118))) hL_114 (ls_ _) rfl (aC rfl)
      ·refine aA rfl hc_117 (aV ?_)
       obtain rfl:=ae hc_113
       obtain rfl:=ae hL_114
       exact aX ((s_112.1,s_112.2)) rfl rfl (aC rfl)
    ·rintro s_112 ho_ sl_ H_ hp_ hq_
     subst ho_
     refine aJ _ hp_ hq_ (aj (aa (vI (w64 ((w64 q_102)+m_3))) (aa (vI s_112.1) (aa (vI (w64 ((w64 ((w64 q_102)+m_3))-s_112.1))) (aa (vI (w64 ((w64 ((w64 q_102)+m_3))-s_112.1))) (af (au (au ?_))))))))
     obtain ⟨v_129,h_130,hF⟩:=bind_some hF
     refine aH [(0,(dV (ak 0) 6 data_1)),(1,(vI a_2)),(2,(vI m_3)),(3,(vI b_4)),(4,(.fn 28 [])),(18,(vI (w64 q_102))),(20,(vI s_112.1)),(24,(vI (w64 ((w64 ((w64 q_102)+m_3))-s_112.1)))),(185,(vB v_129))] [((ak 0),gB 6 Log_.enc data_1)] ?_ ?_
     ·refine av (aa (vI s_112.1) (aa (vI m_3) (aa (vB (decide (s_112.1<m_3))) ?_)))
      rcases ah h_130 with⟨hc_131,h_130⟩|⟨hc_131,h_130⟩
      ·refine aD rfl hc_131 wz (aL (vI m_3) wa rfl (aL (vI (w64 ((w64 ((w64 q_102)+m_3))-s_112.1))) wa rfl (aL (vB (decide (m_3<(w64 ((w64 ((w64 q_102)+m_3))-s_112.1))))) wa rfl (aa (vB (decide (m_3<(w64 ((w64 ((w64 q_102)+m_3))-s_112.1))))) (af ?_)))))
       obtain rfl:=ae h_130
       exact cu
      ·refine aD rfl hc_131 wz (ai (ai (ai (aa (vB false) (af ?_)))))
       obtain rfl:=ae h_130
       exact cu
     ·rintro ⟨⟩ _ sl_ H_ hp_ hq_
      refine aJ _ hp_ hq_ ?_
      obtain ⟨v_132,h_133,hF⟩:=bind_some hF
      refine aH [(0,(dV (ak 0) 6 v_132)),(1,(vI a_2)),(3,(vI b_4)),(4,(.fn 28 [])),(18,(vI (w64 q_102))),(20,(vI s_112.1)),(24,(vI (w64 ((w64 ((w64 q_102)+m_3))-s_112.1))))] [((ak 0),gB 6 Log_.enc v_132)] ?_ ?_
      ·rcases ah h_133 with⟨hc_134,h_133⟩|⟨hc_134,h_133⟩
       ·refine aB rfl hc_134 (av (aa (dV (ak 0) 6 data_1) (aa (vI s_112.1) (aa (vI m_3) (aa (vI (w64 ((w64 ((w64 q_102)+m_3))-s_112.1))) (aa (.fn 28 []) ?_))))))
        obtain ⟨r_135,hr_136,h_133⟩:=bind_some h_133
        obtain ⟨_,hs_137,h_133⟩:=bind_some h_133
        replace hs_137:=bN hs_137
        refine bX 0 [] 0 0 il ft (dP hr_136) rfl Eg rfl rfl rfl (by kernel_rfl) rfl (.inr (.inl rfl)) rfl (by kernel_rfl) (by kernel_rfl) (by kernel_rfl) (by kernel_rfl) rfl (by decide) (by kernel_rfl) bM (jb hs_137) wz ([((ak 0),gB 6 Log_.enc r_135)]:Hp) (by kernel_rfl) (aF (v':=(dV (ak 0) 6 r_135)) 0 rfl (ax hs_137.symm) (aF (v':=(dV (ak 0) 6 r_135)) 186 rfl (ax hs_137.symm) (af ?_)))
        obtain rfl:=ae h_133
        exact cu
       ·refine aA rfl hc_134 (ay ?_)
        obtain rfl:=ae h_133
        exact cu
      ·rintro ⟨⟩ _ sl_ H_ hp_ hq_
       refine aJ _ hp_ hq_ (au (au ?_))
       obtain ⟨v_138,h_139,hF⟩:=bind_some hF
       refine aH [(0,(dV (ak 0) 6 v_132)),(1,(vI a_2)),(3,(vI b_4)),(4,(.fn 28 [])),(18,(vI (w64 q_102))),(20,(vI s_112.1)),(24,(vI (w64 ((w64 ((w64 q_102)+m_3))-s_112.1)))),(199,(vB v_138))] [((ak 0),gB 6 Log_.enc v_132)] ?_ ?_
       ·refine av (aa (vI a_2) (aa (vI s_112.1) (aa (vB (decide (a_2<s_112.1))) ?_)))
        rcases ah h_139 with⟨hc_140,h_139⟩|⟨hc_140,h_139⟩
        ·refine aD rfl hc_140 wz (aL (vI s_112.1) wa rfl (aL (vI (w64 q_102)) wa rfl (aL (vB (decide (s_112.1<(w64 q_102)))) wa rfl (aa (vB (decide (s_112.1<(w64 q_102)))) (af ?_)))))
         obtain rfl:=ae h_139
         exact cu
        ·refine aD rfl hc_140 wz (ai (ai (ai (aa (vB false) (af ?_)))))
         obtain rfl:=ae h_139
         exact cu
       ·rintro ⟨⟩ _ sl_ H_ hp_ hq_
        refine aJ _ hp_ hq_ ?_
        obtain ⟨v_141,h_142,hF⟩:=bind_some hF
        refine aH [(0,(dV (ak 0) 6 v_132)),(3,(vI b_4)),(4,(.fn 28 [])),(18,(vI (w64 q_102))),(24,(vI (w64 ((w64 ((w64 q_102)+m_3))-s_112.1))))] [((ak 0),gB 6 Log_.enc v_132)] ?_ ?_
        ·rcases ah h_142 with⟨hc_143,h_142⟩|⟨hc_143,h_142⟩
         ·refine aB rfl hc_143 (av (aa (dV (ak 0) 6 v_132) (aa (vI a_2) (aa (vI s_112.1) (aa (vI (w64 q_102)) (aa (.fn 28 []) ?_))))))
          cases h_142
         ·refine aA rfl hc_143 (ay ?_)
          obtain rfl:=ae h_142
          exact cu
        ·rintro ⟨⟩ _ sl_ H_ hp_ hq_
         refine aJ _ hp_ hq_ (au ?_)
         obtain ⟨v_144,h_145,hF⟩:=bind_some hF
         refine aH [(0,(dV (ak 0) 6 v_132)),(3,(vI b_4)),(4,(.fn 28 [])),(18,(vI (w64 q_102))),(24,(vI (w64 ((w64 ((w64 q_102)+m_3))-s_112.1)))),(213,(vB v_144))] [((ak 0),gB 6 Log_.enc v_132)] ?_ ?_
         ·refine av (aa (vI (w64 q_102)) (aa (vI (w64 ((w64 ((w64 q_102)+m_3))-s_112.1))) (aa (vB (decide ((w64 q_102)<(w64 ((w64 ((w64 q_102)+m_3))-s_112.1))))) ?_)))
          rcases ah h_145 with⟨hc_146,h_145⟩|⟨hc_146,h_145⟩
          ·refine aD rfl hc_146 wz (aL (vI (w64 ((w64 ((w64 q_102)+m_3))-s_112.1))) wa rfl (aL (vI b_4) wa rfl (aL (vB (decide ((w64 ((w64 ((w64 q_102)+m_3))-s_112.1))<b_4))) wa rfl (aa (vB (decide ((w64 ((w64 ((w64 q_102)+m_3))-s_112.1))<b_4))) (af ?_)))))
           obtain rfl:=ae h_145
           exact cu
          ·refine aD rfl hc_146 wz (ai (ai (ai (aa (vB false) (af ?_)))))
           obtain rfl:=ae h_145
           exact cu
         ·rintro ⟨⟩ _ sl_ H_ hp_ hq_
          refine aJ _ hp_ hq_ ?_
          rcases ah hF with⟨hc_147,hF⟩|⟨hc_147,hF⟩
          ·refine aB rfl hc_147 (av (aa (dV (ak 0) 6 v_132) (aa (vI (w64 q_102)) (aa (vI (w64 ((w64 ((w64 q_102)+m_3))-s_112.1))) (aa (vI b_4) (aa (.fn 28 []) ?_))))))
           cases hF
          ·refine aA rfl hc_147 (ay ?_)
           show lJ _ _ _ _ _ _ _ _
           obtain rfl:=ae hF
           exact jO (bs:=([]:List Box)) (os:=([]:List Box)) (xs:=data_1) (o:=gB 6 Log_.enc v_132) (.inl rfl) [] trivial rfl rfl rfl rfl rfl (by kernel_rfl) bM rfl
theorem jo {data_1:(List Log_)} {a_2:Int} {m_3:Int} {b_4:Int} {r:(List Log_)} (hF:dG data_1 a_2 m_3 b_4=some r) :
  FnM Tryz.prog 57 [(dV (ak 0) 6 data_1),(vI a_2),(vI m_3),(vI b_4),(.fn 28 [])] (([]:List Box)++gI 6 Log_.enc data_1) (.tup []) (([]:List Box).map some++gT data_1 (gB 6 Log_.enc r)):=by
 refine FnM.of_wHv ⟨Tryz.prog,220,[],[]⟩ rfl Tryz.func57 rfl rfl (lb_ rfl) (by kernel_rfl) ?_
 unfold dG at hF
 refine au (aj (aa (vI m_3) (aa (vI a_2) (aa (vI (w64 (m_3-a_2))) (aa (vB ((w64 (m_3-a_2))==1)) (af ?_))))))
 rcases ah hF with⟨hc_6,hF⟩|⟨hc_6,hF⟩
 ·refine aB rfl hc_6 (aj (aa (vI m_3) (aa (vI m_3) (af (aj (aa (vI b_4) (aa (vI b_4) (af (au ?_)))))))))
  obtain ⟨o_15,hj_16,hF⟩:=bind_some hF
  obtain ⟨nq_53,hj_16⟩:=aP hj_16
  refine aU (λ(s_12:Int×Int)=>[(0,(dV (ak 0) 6 data_1)),(1,(vI a_2)),(10,(vI s_12.1))]) (λ(s_12:Int×Int)=>[((ak 0),gB 6 Log_.enc data_1)]) (λ(k_7:Nat)=>(λ(s_12:Int×Int)=>[(0,(dV (ak 0) 6 data_1)),(1,(vI a_2)),(4,(.fn 28 [])),(10,(vI s_12.1)),(11,(vI s_12.2))])) (λs=>eG data_1 a_2 s) o_15 nq_53 (m_3,b_4) hj_16 rfl (aC rfl) ?_ ?_
  ·rintro ⟨k_7,s_12⟩ hL_14
   dsimp only at hL_14
   cases k_7 with
   | zero=>cases hL_14
   | succ k_7 =>
    obtain ⟨c_,hc_13,hL_14⟩:=bind_some hL_14
    unfold eG at hc_13
    refine au (aj (aa (vI s_12.1) (aa (vI s_12.2) (aa (vB (decide (s_12.1<s_12.2))) (af ?_)))))
    rcases ah hc_13 with⟨hc_17,hc_13⟩|⟨hc_17,hc_13⟩
    ·refine aB rfl hc_17 (ay (aI (aj (aa (vI s_12.1) (aa (vI s_12.2) (aa (vI (w64 (s_12.1+s_12.2))) (bB un3 ib rfl wz ?_)))))))
     obtain ⟨q_18,hz_19,hc_13⟩:=bind_some hc_13
     refine jI rfl rfl hz_19 wz (bB ib un3 rfl wz (aa (vI (w64 q_18)) (af (au (aQ (aa (.fn 28 []) (aa (dV (ak 0) 6 data_1) (aa (vI (w64 q_18)) ?_))))))))
     obtain ⟨_,hi_20,hc_13⟩:=bind_some hc_13
     refine aO bg rfl rfl (aW hi_20) (aM hi_20) wz ?_
     obtain ⟨e_21,hy_22,hc_13⟩:=bind_some hc_13
     refine aZ 4 0 (.inr (by kernel_rfl)) (λ_ _ ag=>trivial) bf bL rfl rfl hy_22 (.d (.agg (Log_.enc e_21))) rfl wz (aa (dV (ak 0) 6 data_1) (aa (vI a_2) ?_))
     obtain ⟨_,hi_23,hc_13⟩:=bind_some hc_13
     refine aO bg rfl rfl (aW hi_23) (aM hi_23) wz ?_
     obtain ⟨e_24,hy_25,hc_13⟩:=bind_some hc_13
     refine aZ 8 0 (.inr (by kernel_rfl)) (λ_ _ ag=>⟨.inl ⟨rfl,rfl⟩,trivial⟩) bf bL rfl rfl hy_25 (.d (.agg (Log_.enc e_24))) rfl wz ?_
     obtain ⟨r_26,hr_27,hc_13⟩:=bind_some hc_13
     refine aG (bC hr_27) rfl uU rfl rfl rfl rfl wz (aa (vB (decide (r_26<0))) (af ?_))
     rcases ah hc_13 with⟨hc_28,hc_13⟩|⟨hc_28,hc_13⟩
     ·refine aB rfl hc_28 (av (aa (vI (w64 q_18)) (aa (vI (w64 ((w64 q_18)+1))) (aa (vI (w64 ((w64 q_18)+1))) (af ?_)))))
      obtain rfl:=ae hc_13
      exact aK (k_7,((w64 ((w64 q_18)+1)),s_12.2)) hL_14 (ls_ _) rfl (aC rfl)
     ·refine aA rfl hc_28 (av (aa (vI (w64 q_18)) (aa (vI (w64 q_18)) (af ?_))))
      obtain rfl:=ae hc_13
      exact aK (k_7,(s_12.1,(w64 q_18))) hL_14 (ls_ _) rfl (aC rfl)
    ·refine aA rfl hc_17 (aV ?_)
     obtain rfl:=ae hc_13
     obtain rfl:=ae hL_14
     exact aX ((s_12.1,s_12.2)) rfl rfl (aC rfl)
  ·rintro s_12 ho_ sl_ H_ hp_ hq_
   subst ho_
   refine aJ _ hp_ hq_ (au (aj (aa (vI a_2) (aa (vI a_2) (af ?_)))))
   obtain ⟨o_37,hj_38,hF⟩:=bind_some hF
   obtain ⟨nq_52,hj_38⟩:=aP hj_38
   refine aU (λ(s_34:(List Log_)×Int)=>[]) (λ(s_34:(List Log_)×Int)=>[((ak 0),gB 6 Log_.enc s_34.1)]) (λ(k_29:Nat)=>(λ(s_34:(List Log_)×Int)=>[(0,(dV (ak 0) 6 s_34.1)),(10,(vI s_12.1)),(13,(vI s_34.2))])) (λs=>fK s_12 s) o_37 nq_52 (data_1,a_2) hj_38 rfl (aC rfl) ?_ ?_
   ·rintro ⟨k_29,s_34⟩ hL_36
    dsimp only at hL_36
    cases k_29 with
    | zero=>cases hL_36
    | succ k_29 =>
     obtain ⟨c_,hc_35,hL_36⟩:=bind_some hL_36
     unfold fK at hc_35
     refine au (aj (aa (vI s_34.2) (aa (vI s_12.1) (aa (vI (w64 (s_12.1-1))) (aa (vB (decide (s_34.2<(w64 (s_12.1-1))))) (af ?_))))))
     rcases ah hc_35 with⟨hc_39,hc_35⟩|⟨hc_39,hc_35⟩
     ·refine aB rfl hc_39 (ay (au (aI (aQ (aa (dV (ak 0) 6 s_34.1) (aa (vI s_34.2) (aa (dV (ak 0) 6 s_34.1) (aa (vI s_34.2) (aa (vI (w64 (s_34.2+1))) (aa (dV (ak 0) 6 s_34.1) (aa (vI s_34.2) (aa (vI (w64 (s_34.2+1))) ?_))))))))))))
      obtain ⟨_,hi_40,hc_35⟩:=bind_some hc_35
      refine aO bg rfl rfl (aW hi_40) (aM hi_40) wz ?_
      obtain ⟨e_41,hy_42,hc_35⟩:=bind_some hc_35
      refine aZ 9 0 (.inr (by kernel_rfl)) (λ_ _ ag=>trivial) bf bL rfl rfl hy_42 (.d (.agg (Log_.enc e_41))) rfl wz (aa (dV (ak 0) 6 s_34.1) (aa (vI s_34.2) ?_))
      obtain ⟨_,hi_43,hc_35⟩:=bind_some hc_35
      refine aO bg rfl rfl (aW hi_43) (aM hi_43) wz ?_
      obtain ⟨e_44,hy_45,hc_35⟩:=bind_some hc_35
      refine aZ 13 0 (.inr (by kernel_rfl)) (λ_ _ ag=>⟨.inl ⟨rfl,rfl⟩,trivial⟩) bf bL rfl rfl hy_45 (.d (.agg (Log_.enc e_44))) rfl wz ?_
      obtain ⟨_,hi_46,hc_35⟩:=bind_some hc_35
      refine aO bg rfl rfl (aW hi_46) (aM hi_46) wz ?_
      obtain ⟨e_47,hy_48,hc_35⟩:=bind_some hc_35
      refine cO 15 (.inr (by kernel_rfl)) (λ_ _ ag=>⟨.inr (.inr (by kernel_rfl)),⟨.inr (.inr (by kernel_rfl)),trivial⟩⟩) 0 bf rfl rfl hy_48 e_41 rfl wz (aF (v':=(dV (ak 0) 6 (s_34.1.set (0+(s_34.2).toNat) e_41))) 0 rfl (ax (by simp)) (aF (v':=(dV (ak 0) 6 (s_34.1.set (0+(s_34.2).toNat) e_41))) 61 rfl (ax (by simp)) (aF (v':=(dV (ak 0) 6 (s_34.1.set (0+(s_34.2).toNat) e_41))) 63 rfl (ax (by simp)) (aF (v':=(dV (ak 0) 6 (s_34.1.set (0+(s_34.2).toNat) e_41))) 66 rfl (ax (by simp)) (aF (v':=(dV (ak 0) 6 (s_34.1.set (0+(s_34.2).toNat) e_41))) 71 rfl (ax (by simp)) ?_)))))
      obtain ⟨_,hi_49,hc_35⟩:=bind_some hc_35
      refine aO bg rfl rfl (aW hi_49) (aM hi_49) wz ?_
      obtain ⟨e_50,hy_51,hc_35⟩:=bind_some hc_35
      refine cO 17 (.inr (by kernel_rfl)) (λ_ _ ag=>⟨.inr (.inr (by kernel_rfl)),⟨.inr (.inr (by kernel_rfl)),⟨.inr (.inr (by kernel_rfl)),trivial⟩⟩⟩) 0 bf rfl rfl hy_51 e_44 rfl wz (aF (v':=(dV (ak 0) 6 ((s_34.1.set (0+(s_34.2).toNat) e_41).set (0+((w64 (s_34.2+1))).toNat) e_44))) 0 rfl (ax (by simp)) (aF (v':=(dV (ak 0) 6 ((s_34.1.set (0+(s_34.2).toNat) e_41).set (0+((w64 (s_34.2+1))).toNat) e_44))) 61 rfl (ax (by simp)) (aF (v':=(dV (ak 0) 6 ((s_34.1.set (0+(s_34.2).toNat) e_41).set (0+((w64 (s_34.2+1))).toNat) e_44))) 63 rfl (ax (by simp)) (aF (v':=(dV (ak 0) 6 ((s_34.1.set (0+(s_34.2).toNat) e_41).set (0+((w64 (s_34.2+1))).toNat) e_44))) 66 rfl (ax (by simp)) (aF (v':=(dV (ak 0) 6 ((s_34.1.set (0+(s_34.2).toNat) e_41).set (0+((w64 (s_34.2+1))).toNat) e_44))) 71 rfl (ax (by simp)) (af (av (aa (vI s_34.2) (aa (vI (w64 (s_34.2+1))) (aa (vI (w64 (s_34.2+1))) (af ?_)))))))))))
      obtain rfl:=ae hc_35
      exact aK (k_29,(((s_34.1.set (0+(s_34.2).toNat) e_41).set (0+((w64 (s_34.2+1))).toNat) e_44),(w64 (s_34.2+1)))) hL_36 (ls_ _) rfl (aC rfl)
     ·refine aA rfl hc_39 (aV ?_)
      obtain rfl:=ae hc_35
      obtain rfl:=ae hL_36
      exact aX ((s_34.1,s_34.2)) rfl rfl (aC rfl)
   ·rintro s_34 ho_ sl_ H_ hp_ hq_
    subst ho_
    refine aJ _ hp_ hq_ ?_
    obtain rfl:=ae hF
    exact aN (jO (bs:=([]:List Box)) (os:=([]:List Box)) (xs:=data_1) (o:=gB 6 Log_.enc s_34.1) (.inr rfl) [] trivial rfl rfl rfl rfl rfl (by kernel_rfl) bM rfl)
 ·refine aA rfl hc_6 (ay (au (aj (aa (vI b_4) (aa (vI m_3) (aa (vI (w64 (b_4-m_3))) (aa (vB ((w64 (b_4-m_3))==1)) (af ?_))))))))
  rcases ah hF with⟨hc_54,hF⟩|⟨hc_54,hF⟩
  ·refine aB rfl hc_54 (aj (aa (vI a_2) (aa (vI a_2) (af (aj (aa (vI m_3) (aa (vI m_3) (af (au ?_)))))))))
   obtain ⟨o_63,hj_64,hF⟩:=bind_some hF
   obtain ⟨nq_101,hj_64⟩:=aP hj_64
   refine aU (λ(s_60:Int×Int)=>[(0,(dV (ak 0) 6 data_1)),(2,(vI m_3)),(14,(vI s_60.1))]) (λ(s_60:Int×Int)=>[((ak 0),gB 6 Log_.enc data_1)]) (λ(k_55:Nat)=>(λ(s_60:Int×Int)=>[(0,(dV (ak 0) 6 data_1)),(2,(vI m_3)),(4,(.fn 28 [])),(14,(vI s_60.1)),(15,(vI s_60.2))])) (λs=>fE m_3 data_1 s) o_63 nq_101 (a_2,m_3) hj_64 rfl (aC rfl) ?_ ?_
   ·rintro ⟨k_55,s_60⟩ hL_62
    dsimp only at hL_62
    cases k_55 with
    | zero=>cases hL_62
    | succ k_55 =>
     obtain ⟨c_,hc_61,hL_62⟩:=bind_some hL_62
     unfold fE at hc_61
     refine au (aj (aa (vI s_60.1) (aa (vI s_60.2) (aa (vB (decide (s_60.1<s_60.2))) (af ?_)))))
     rcases ah hc_61 with⟨hc_65,hc_61⟩|⟨hc_65,hc_61⟩
     ·refine aB rfl hc_65 (ay (aI (aj (aa (vI s_60.1) (aa (vI s_60.2) (aa (vI (w64 (s_60.1+s_60.2))) (bB un3 ib rfl wz ?_)))))))
      obtain ⟨q_66,hz_67,hc_61⟩:=bind_some hc_61
      refine jI rfl rfl hz_67 wz (bB ib un3 rfl wz (aa (vI (w64 q_66)) (af (au (aQ (aa (.fn 28 []) (aa (dV (ak 0) 6 data_1) (aa (vI m_3) ?_))))))))
      obtain ⟨_,hi_68,hc_61⟩:=bind_some hc_61
      refine aO bg rfl rfl (aW hi_68) (aM hi_68) wz ?_
      obtain ⟨e_69,hy_70,hc_61⟩:=bind_some hc_61
      refine aZ 4 0 (.inr (by kernel_rfl)) (λ_ _ ag=>trivial) bf bL rfl rfl hy_70 (.d (.agg (Log_.enc e_69))) rfl wz (aa (dV (ak 0) 6 data_1) (aa (vI (w64 q_66)) ?_))
      obtain ⟨_,hi_71,hc_61⟩:=bind_some hc_61
      refine aO bg rfl rfl (aW hi_71) (aM hi_71) wz ?_
      obtain ⟨e_72,hy_73,hc_61⟩:=bind_some hc_61
      refine aZ 8 0 (.inr (by kernel_rfl)) (λ_ _ ag=>⟨.inl ⟨rfl,rfl⟩,trivial⟩) bf bL rfl rfl hy_73 (.d (.agg (Log_.enc e_72))) rfl wz ?_
      obtain ⟨r_74,hr_75,hc_61⟩:=bind_some hc_61
      refine aG (bC hr_75) rfl uU rfl rfl rfl rfl wz (aa (vB (decide (r_74<0))) (aa (vB (!(decide (r_74<0)))) (af ?_)))
      rcases ah hc_61 with⟨hc_76,hc_61⟩|⟨hc_76,hc_61⟩
      ·refine aB rfl hc_76 (av (aa (vI (w64 q_66)) (aa (vI (w64 ((w64 q_66)+1))) (aa (vI (w64 ((w64 q_66)+1))) (af ?_)))))
       obtain rfl:=ae hc_61
       exact aK (k_55,((w64 ((w64 q_66)+1)),s_60.2)) hL_62 (ls_ _) rfl (aC rfl)
      ·refine aA rfl hc_76 (av (aa (vI (w64 q_66)) (aa (vI (w64 q_66)) (af ?_))))
       obtain rfl:=ae hc_61
       exact aK (k_55,(s_60.1,(w64 q_66))) hL_62 (ls_ _) rfl (aC rfl)
     ·refine aA rfl hc_65 (aV ?_)
      obtain rfl:=ae hc_61
      obtain rfl:=ae hL_62
      exact aX ((s_60.1,s_60.2)) rfl rfl (aC rfl)
   ·rintro s_60 ho_ sl_ H_ hp_ hq_
    subst ho_
    refine aJ _ hp_ hq_ (au (aj (aa (vI m_3) (aa (vI m_3) (af ?_)))))
    obtain ⟨o_85,hj_86,hF⟩:=bind_some hF
    obtain ⟨nq_100,hj_86⟩:=aP hj_86
    refine aU (λ(s_82:(List Log_)×Int)=>[]) (λ(s_82:(List Log_)×Int)=>[((ak 0),gB 6 Log_.enc s_82.1)]) (λ(k_77:Nat)=>(λ(s_82:(List Log_)×Int)=>[(0,(dV (ak 0) 6 s_82.1)),(14,(vI s_60.1)),(17,(vI s_82.2))])) (λs=>eP s_60 s) o_85 nq_100 (data_1,m_3) hj_86 rfl (aC rfl) ?_ ?_
    ·rintro ⟨k_77,s_82⟩ hL_84
     dsimp only at hL_84
     cases k_77 with
     | zero=>cases hL_84
     | succ k_77 =>
      obtain ⟨c_,hc_83,hL_84⟩:=bind_some hL_84
      unfold eP at hc_83
      refine au (aj (aa (vI s_82.2) (aa (vI s_60.1) (aa (vB (decide (s_82.2>s_60.1))) (af ?_)))))
      rcases ah hc_83 with⟨hc_87,hc_83⟩|⟨hc_87,hc_83⟩
      ·refine aB rfl hc_87 (ay (au (aI (aQ (aa (dV (ak 0) 6 s_82.1) (aa (vI s_82.2) (aa (dV (ak 0) 6 s_82.1) (aa (vI s_82.2) (aa (vI (w64 (s_82.2-1))) (aa (dV (ak 0) 6 s_82.1) (aa (vI s_82.2) (aa (vI (w64 (s_82.2-1))) ?_))))))))))))
       obtain ⟨_,hi_88,hc_83⟩:=bind_some hc_83
       refine aO bg rfl rfl (aW hi_88) (aM hi_88) wz ?_
       obtain ⟨e_89,hy_90,hc_83⟩:=bind_some hc_83
       refine aZ 9 0 (.inr (by kernel_rfl)) (λ_ _ ag=>trivial) bf bL rfl rfl hy_90 (.d (.agg (Log_.enc e_89))) rfl wz (aa (dV (ak 0) 6 s_82.1) (aa (vI s_82.2) ?_))
       obtain ⟨_,hi_91,hc_83⟩:=bind_some hc_83
       refine aO bg rfl rfl (aW hi_91) (aM hi_91) wz ?_
       obtain ⟨e_92,hy_93,hc_83⟩:=bind_some hc_83
       refine aZ 13 0 (.inr (by kernel_rfl)) (λ_ _ ag=>⟨.inl ⟨rfl,rfl⟩,trivial⟩) bf bL rfl rfl hy_93 (.d (.agg (Log_.enc e_92))) rfl wz ?_
       obtain ⟨_,hi_94,hc_83⟩:=bind_some hc_83
       refine aO bg rfl rfl (aW hi_94) (aM hi_94) wz ?_
       obtain ⟨e_95,hy_96,hc_83⟩:=bind_some hc_83
       refine cO 15 (.inr (by kernel_rfl)) (λ_ _ ag=>⟨.inr (.inr (by kernel_rfl)),⟨.inr (.inr (by kernel_rfl)),trivial⟩⟩) 0 bf rfl rfl hy_96 e_89 rfl wz (aF (v':=(dV (ak 0) 6 (s_82.1.set (0+(s_82.2).toNat) e_89))) 0 rfl (ax (by simp)) (aF (v':=(dV (ak 0) 6 (s_82.1.set (0+(s_82.2).toNat) e_89))) 113 rfl (ax (by simp)) (aF (v':=(dV (ak 0) 6 (s_82.1.set (0+(s_82.2).toNat) e_89))) 115 rfl (ax (by simp)) (aF (v':=(dV (ak 0) 6 (s_82.1.set (0+(s_82.2).toNat) e_89))) 118 rfl (ax (by simp)) (aF (v':=(dV (ak 0) 6 (s_82.1.set (0+(s_82.2).toNat) e_89))) 123 rfl (ax (by simp)) ?_)))))
       obtain ⟨_,hi_97,hc_83⟩:=bind_some hc_83
       refine aO bg rfl rfl (aW hi_97) (aM hi_97) wz ?_
       obtain ⟨e_98,hy_99,hc_83⟩:=bind_some hc_83
       refine cO 17 (.inr (by kernel_rfl)) (λ_ _ ag=>⟨.inr (.inr (by kernel_rfl)),⟨.inr (.inr (by kernel_rfl)),⟨.inr (.inr (by kernel_rfl)),trivial⟩⟩⟩) 0 bf rfl rfl hy_99 e_92 rfl wz (aF (v':=(dV (ak 0) 6 ((s_82.1.set (0+(s_82.2).toNat) e_89).set (0+((w64 (s_82.2-1))).toNat) e_92))) 0 rfl (ax (by simp)) (aF (v':=(dV (ak 0) 6 ((s_82.1.set (0+(s_82.2).toNat) e_89).set (0+((w64 (s_82.2-1))).toNat) e_92))) 113 rfl (ax (by simp)) (aF (v':=(dV (ak 0) 6 ((s_82.1.set (0+(s_82.2).toNat) e_89).set (0+((w64 (s_82.2-1))).toNat) e_92))) 115 rfl (ax (by simp)) (aF (v':=(dV (ak 0) 6 ((s_82.1.set (0+(s_82.2).toNat) e_89).set (0+((w64 (s_82.2-1))).toNat) e_92))) 118 rfl (ax (by simp)) (aF (v':=(dV (ak 0) 6 ((s_82.1.set (0+(s_82.2).toNat) e_89).set (0+((w64 (s_82.2-1))).toNat) e_92))) 123 rfl (ax (by simp)) (af (av (aa (vI s_82.2) (aa (vI (w64 (s_82.2-1))) (aa (vI (w64 (s_82.2-1))) (af ?_)))))))))))
       obtain rfl:=ae hc_83
       exact aK (k_77,(((s_82.1.set (0+(s_82.2).toNat) e_89).set (0+((w64 (s_82.2-1))).toNat) e_92),(w64 (s_82.2-1)))) hL_84 (ls_ _) rfl (aC rfl)
      ·refine aA rfl hc_87 (aV ?_)
       obtain rfl:=ae hc_83
       obtain rfl:=ae hL_84
       exact aX ((s_82.1,s_82.2)) rfl rfl (aC rfl)
    ·rintro s_82 ho_ sl_ H_ hp_ hq_
     subst ho_
     refine aJ _ hp_ hq_ ?_
     obtain rfl:=ae hF
     exact aN (jO (bs:=([]:List Box)) (os:=([]:List Box)) (xs:=data_1) (o:=gB 6 Log_.enc s_82.1) (.inr rfl) [] trivial rfl rfl rfl rfl rfl (by kernel_rfl) bM rfl)
  ·refine aA rfl hc_54 (ay (aj (aa (vI a_2) (aa (vI b_4) (aa (vI (w64 (a_2+b_4))) (bB un3 ib rfl wz ?_))))))
   obtain ⟨q_102,hz_103,hF⟩:=bind_some hF
   refine jI rfl rfl hz_103 wz (bB ib un3 rfl wz (aa (vI (w64 q_102)) (af (aj (aa (vI (w64 q_102)) (aa (vI m_3) (aa (vI (w64 ((w64 q_102)+m_3))) (aa (vI (w64 ((w64 q_102)+m_3))) (af (aj (aa (vI 0) (aa (vI 0) (af (au (aj (aa (vI m_3) (aa (vI (w64 q_102)) (aa (vB (decide (m_3>(w64 q_102)))) (af ?_)))))))))))))))))))
   obtain ⟨v_104,h_105,hF⟩:=bind_some hF
   refine aH [(0,(dV (ak 0) 6 data_1)),(1,(vI a_2)),(2,(vI m_3)),(3,(vI b_4)),(4,(.fn 28 [])),(18,(vI (w64 q_102))),(19,(vI (w64 ((w64 q_102)+m_3)))),(20,(vI v_104.1)),(21,(vI v_104.2))] [((ak 0),gB 6 Log_.enc data_1)] ?_ ?_
   ·rcases ah h_105 with⟨hc_106,h_105⟩|⟨hc_106,h_105⟩
    ·refine aB rfl hc_106 (aj (aa (vI (w64 ((w64 q_102)+m_3))) (aa (vI b_4) (aa (vI (w64 ((w64 ((w64 q_102)+m_3))-b_4))) (aa (vI (w64 ((w64 ((w64 q_102)+m_3))-b_4))) (af (av (aa (vI (w64 q_102)) (aa (vI (w64 q_102)) (af ?_))))))))))
     obtain rfl:=ae h_105
     exact cu
    ·refine aA rfl hc_106 (aj (aa (vI a_2) (aa (vI a_2) (af (av (aa (vI m_3) (aa (vI m_3) (af ?_))))))))
     obtain rfl:=ae h_105
     exact cu
   ·rintro ⟨⟩ _ sl_ H_ hp_ hq_
    refine aJ _ hp_ hq_ (aj (aa (vI (w64 ((w64 q_102)+m_3))) (aa (vI (w64 ((w64 ((w64 q_102)+m_3))-1))) (aa (vI (w64 ((w64 ((w64 q_102)+m_3))-1))) (af (au ?_))))))
    obtain ⟨o_115,hj_116,hF⟩:=bind_some hF
    obtain ⟨nq_154,hj_116⟩:=aP hj_116
    refine aU (λ(s_112:Int×Int)=>[(0,(dV (ak 0) 6 data_1)),(1,(vI a_2)),(2,(vI m_3)),(3,(vI b_4)),(4,(.fn 28 [])),(18,(vI (w64 q_102))),(19,(vI (w64 ((w64 q_102)+m_3)))),(20,(vI s_112.1))]) (λ(s_112:Int×Int)=>[((ak 0),gB 6 Log_.enc data_1)]) (λ(k_107:Nat)=>(λ(s_112:Int×Int)=>[(0,(dV (ak 0) 6 data_1)),(1,(vI a_2)),(2,(vI m_3)),(3,(vI b_4)),(4,(.fn 28 [])),(18,(vI (w64 q_102))),(19,(vI (w64 ((w64 q_102)+m_3)))),(20,(vI s_112.1)),(21,(vI s_112.2)),(22,(vI (w64 ((w64 ((w64 q_102)+m_3))-1))))])) (λs=>eu q_102 m_3 data_1 s) o_115 nq_154 (v_104.1,v_104.2) hj_116 rfl (aC rfl) ?_ ?_
    ·rintro ⟨k_107,s_112⟩ hL_114
     dsimp only at hL_114
     cases k_107 with
     | zero=>cases hL_114
     | succ k_107 =>
      obtain ⟨c_,hc_113,hL_114⟩:=bind_some hL_114
      unfold eu at hc_113
      refine au (aj (aa (vI s_112.1) (aa (vI s_112.2) (aa (vB (decide (s_112.1<s_112.2))) (af ?_)))))
      rcases ah hc_113 with⟨hc_117,hc_113⟩|⟨hc_117,hc_113⟩
      ·refine aB rfl hc_117 (ay (aI (aj (aa (vI s_112.1) (aa (vI s_112.2) (aa (vI (w64 (s_112.1+s_112.2))) (bB un3 ib rfl wz ?_)))))))
       obtain ⟨q_118,hz_119,hc_113⟩:=bind_some hc_113
       refine jI rfl rfl hz_119 wz (bB ib un3 rfl wz (aa (vI (w64 q_118)) (af (au (aQ (aa (.fn 28 []) (aa (dV (ak 0) 6 data_1) (aa (vI (w64 ((w64 ((w64 q_102)+m_3))-1))) (aa (vI (w64 q_118)) (aa (vI (w64 ((w64 ((w64 ((w64 q_102)+m_3))-1))-(w64 q_118)))) ?_))))))))))
       obtain ⟨_,hi_120,hc_113⟩:=bind_some hc_113
       refine aO bg rfl rfl (aW hi_120) (aM hi_120) wz ?_
       obtain ⟨e_121,hy_122,hc_113⟩:=bind_some hc_113
       refine aZ 6 0 (.inr (by kernel_rfl)) (λ_ _ ag=>trivial) bf bL rfl rfl hy_122 (.d (.agg (Log_.enc e_121))) rfl wz (aa (dV (ak 0) 6 data_1) (aa (vI (w64 q_118)) ?_))
       obtain ⟨_,hi_123,hc_113⟩:=bind_some hc_113
       refine aO bg rfl rfl (aW hi_123) (aM hi_123) wz ?_
       obtain ⟨e_124,hy_125,hc_113⟩:=bind_some hc_113
       refine aZ 10 0 (.inr (by kernel_rfl)) (λ_ _ ag=>⟨.inl ⟨rfl,rfl⟩,trivial⟩) bf bL rfl rfl hy_125 (.d (.agg (Log_.enc e_124))) rfl wz ?_
       obtain ⟨r_126,hr_127,hc_113⟩:=bind_some hc_113
       refine aG (bC hr_127) rfl uU rfl rfl rfl rfl wz (aa (vB (decide (r_126<0))) (aa (vB (!(decide (r_126<0)))) (af ?_)))
       rcases ah hc_113 with⟨hc_128,hc_113⟩|⟨hc_128,hc_113⟩
       ·refine aB rfl hc_128 (av (aa (vI (w64 q_118)) (aa (vI (w64 ((w64 q_118)+1))) (aa (vI (w64 ((w64 q_118)+1))) (af ?_)))))
        obtain rfl:=ae hc_113
        exact aK (k_107,((w64 ((w64 q_118)+1)),s_112.2)) hL_114 (ls_ _) rfl (aC rfl)
       ·refine aA rfl hc_128 (av (aa (vI (w64 q_118)) (aa (vI (w64 q_118)) (af ?_))))
        obtain rfl:=ae hc_113
        exact aK (k_107,(s_112.1,(w64 q_118))) hL_114 (ls_ _) rfl (aC rfl)
      ·refine aA rfl hc_117 (aV ?_)
       obtain rfl:=ae hc_113
       obtain rfl:=ae hL_114
       exact aX ((s_112.1,s_112.2)) rfl rfl (aC rfl)
    ·rintro s_112 ho_ sl_ H_ hp_ hq_
     subst ho_
     refine aJ _ hp_ hq_ (aj (aa (vI (w64 ((w64 q_102)+m_3))) (aa (vI s_112.1) (aa (vI (w64 ((w64 ((w64 q_102)+m_3))-s_112.1))) (aa (vI (w64 ((w64 ((w64 q_102)+m_3))-s_112.1))) (af (au (au ?_))))))))
     obtain ⟨v_129,h_130,hF⟩:=bind_some hF
     refine aH [(0,(dV (ak 0) 6 data_1)),(1,(vI a_2)),(2,(vI m_3)),(3,(vI b_4)),(4,(.fn 28 [])),(18,(vI (w64 q_102))),(20,(vI s_112.1)),(24,(vI (w64 ((w64 ((w64 q_102)+m_3))-s_112.1)))),(185,(vB v_129))] [((ak 0),gB 6 Log_.enc data_1)] ?_ ?_
     ·refine av (aa (vI s_112.1) (aa (vI m_3) (aa (vB (decide (s_112.1<m_3))) ?_)))
      rcases ah h_130 with⟨hc_131,h_130⟩|⟨hc_131,h_130⟩
      ·refine aD rfl hc_131 wz (aL (vI m_3) wa rfl (aL (vI (w64 ((w64 ((w64 q_102)+m_3))-s_112.1))) wa rfl (aL (vB (decide (m_3<(w64 ((w64 ((w64 q_102)+m_3))-s_112.1))))) wa rfl (aa (vB (decide (m_3<(w64 ((w64 ((w64 q_102)+m_3))-s_112.1))))) (af ?_)))))
       obtain rfl:=ae h_130
       exact cu
      ·refine aD rfl hc_131 wz (ai (ai (ai (aa (vB false) (af ?_)))))
       obtain rfl:=ae h_130
       exact cu
     ·rintro ⟨⟩ _ sl_ H_ hp_ hq_
      refine aJ _ hp_ hq_ ?_
      obtain ⟨v_132,h_133,hF⟩:=bind_some hF
      refine aH [(0,(dV (ak 0) 6 v_132)),(1,(vI a_2)),(3,(vI b_4)),(4,(.fn 28 [])),(18,(vI (w64 q_102))),(20,(vI s_112.1)),(24,(vI (w64 ((w64 ((w64 q_102)+m_3))-s_112.1))))] [((ak 0),gB 6 Log_.enc v_132)] ?_ ?_
      ·rcases ah h_133 with⟨hc_134,h_133⟩|⟨hc_134,h_133⟩
       ·refine aB rfl hc_134 (av (aa (dV (ak 0) 6 data_1) (aa (vI s_112.1) (aa (vI m_3) (aa (vI (w64 ((w64 ((w64 q_102)+m_3))-s_112.1))) (aa (.fn 28 []) ?_))))))
        obtain ⟨r_135,hr_136,h_133⟩:=bind_some h_133
        obtain ⟨_,hs_137,h_133⟩:=bind_some h_133
        replace hs_137:=bN hs_137
        refine bX 0 [] 0 0 il ft (dP hr_136) rfl Eg rfl rfl rfl (by kernel_rfl) rfl (.inr (.inl rfl)) rfl (by kernel_rfl) (by kernel_rfl) (by kernel_rfl) (by kernel_rfl) rfl (by decide) (by kernel_rfl) bM (jb hs_137) wz ([((ak 0),gB 6 Log_.enc r_135)]:Hp) (by kernel_rfl) (aF (v':=(dV (ak 0) 6 r_135)) 0 rfl (ax hs_137.symm) (aF (v':=(dV (ak 0) 6 r_135)) 186 rfl (ax hs_137.symm) (af ?_)))
        obtain rfl:=ae h_133
        exact cu
       ·refine aA rfl hc_134 (ay ?_)
        obtain rfl:=ae h_133
        exact cu
      ·rintro ⟨⟩ _ sl_ H_ hp_ hq_
       refine aJ _ hp_ hq_ (au (au ?_))
       obtain ⟨v_138,h_139,hF⟩:=bind_some hF
       refine aH [(0,(dV (ak 0) 6 v_132)),(1,(vI a_2)),(3,(vI b_4)),(4,(.fn 28 [])),(18,(vI (w64 q_102))),(20,(vI s_112.1)),(24,(vI (w64 ((w64 ((w64 q_102)+m_3))-s_112.1)))),(199,(vB v_138))] [((ak 0),gB 6 Log_.enc v_132)] ?_ ?_
       ·refine av (aa (vI a_2) (aa (vI s_112.1) (aa (vB (decide (a_2<s_112.1))) ?_)))
        rcases ah h_139 with⟨hc_140,h_139⟩|⟨hc_140,h_139⟩
        ·refine aD rfl hc_140 wz (aL (vI s_112.1) wa rfl (aL (vI (w64 q_102)) wa rfl (aL (vB (decide (s_112.1<(w64 q_102)))) wa rfl (aa (vB (decide (s_112.1<(w64 q_102)))) (af ?_)))))
         obtain rfl:=ae h_139
         exact cu
        ·refine aD rfl hc_140 wz (ai (ai (ai (aa (vB false) (af ?_)))))
         obtain rfl:=ae h_139
         exact cu
       ·rintro ⟨⟩ _ sl_ H_ hp_ hq_
        refine aJ _ hp_ hq_ ?_
        obtain ⟨v_141,h_142,hF⟩:=bind_some hF
        refine aH [(0,(dV (ak 0) 6 v_141)),(3,(vI b_4)),(4,(.fn 28 [])),(18,(vI (w64 q_102))),(24,(vI (w64 ((w64 ((w64 q_102)+m_3))-s_112.1))))] [((ak 0),gB 6 Log_.enc v_141)] ?_ ?_
        ·rcases ah h_142 with⟨hc_143,h_142⟩|⟨hc_143,h_142⟩
         ·refine aB rfl hc_143 (av (aa (dV (ak 0) 6 v_132) (aa (vI a_2) (aa (vI s_112.1) (aa (vI (w64 q_102)) (aa (.fn 28 []) ?_))))))
          obtain ⟨r_144,hr_145,h_142⟩:=bind_some h_142
          obtain ⟨_,hs_146,h_142⟩:=bind_some h_142
          replace hs_146:=bN hs_146
          refine bX 0 [] 0 0 il ft (jm hr_145) rfl uC rfl rfl rfl (by kernel_rfl) rfl (.inr (.inl rfl)) rfl (by kernel_rfl) (by kernel_rfl) (by kernel_rfl) (by kernel_rfl) rfl (by decide) (by kernel_rfl) bM (jb hs_146) wz ([((ak 0),gB 6 Log_.enc r_144)]:Hp) (by kernel_rfl) (aF (v':=(dV (ak 0) 6 r_144)) 0 rfl (ax hs_146.symm) (aF (v':=(dV (ak 0) 6 r_144)) 200 rfl (ax hs_146.symm) (af ?_)))
          obtain rfl:=ae h_142
          exact cu
         ·refine aA rfl hc_143 (ay ?_)
          obtain rfl:=ae h_142
          exact cu
        ·rintro ⟨⟩ _ sl_ H_ hp_ hq_
         refine aJ _ hp_ hq_ (au ?_)
         obtain ⟨v_147,h_148,hF⟩:=bind_some hF
         refine aH [(0,(dV (ak 0) 6 v_141)),(3,(vI b_4)),(4,(.fn 28 [])),(18,(vI (w64 q_102))),(24,(vI (w64 ((w64 ((w64 q_102)+m_3))-s_112.1)))),(213,(vB v_147))] [((ak 0),gB 6 Log_.enc v_141)] ?_ ?_
         ·refine av (aa (vI (w64 q_102)) (aa (vI (w64 ((w64 ((w64 q_102)+m_3))-s_112.1))) (aa (vB (decide ((w64 q_102)<(w64 ((w64 ((w64 q_102)+m_3))-s_112.1))))) ?_)))
          rcases ah h_148 with⟨hc_149,h_148⟩|⟨hc_149,h_148⟩
          ·refine aD rfl hc_149 wz (aL (vI (w64 ((w64 ((w64 q_102)+m_3))-s_112.1))) wa rfl (aL (vI b_4) wa rfl (aL (vB (decide ((w64 ((w64 ((w64 q_102)+m_3))-s_112.1))<b_4))) wa rfl (aa (vB (decide ((w64 ((w64 ((w64 q_102)+m_3))-s_112.1))<b_4))) (af ?_)))))
           obtain rfl:=ae h_148
           exact cu
          ·refine aD rfl hc_149 wz (ai (ai (ai (aa (vB false) (af ?_)))))
           obtain rfl:=ae h_148
           exact cu
         ·rintro ⟨⟩ _ sl_ H_ hp_ hq_
          refine aJ _ hp_ hq_ ?_
          rcases ah hF with⟨hc_150,hF⟩|⟨hc_150,hF⟩
          ·refine aB rfl hc_150 (av (aa (dV (ak 0) 6 v_141) (aa (vI (w64 q_102)) (aa (vI (w64 ((w64 ((w64 q_102)+m_3))-s_112.1))) (aa (vI b_4) (aa (.fn 28 []) ?_))))))
           obtain ⟨r_151,hr_152,hF⟩:=bind_some hF
           obtain ⟨_,hs_153,hF⟩:=bind_some hF
           replace hs_153:=bN hs_153
           refine bX 0 [] 0 0 il ft (jm hr_152) rfl uC rfl rfl rfl (by kernel_rfl) rfl (.inr (.inl rfl)) rfl (by kernel_rfl) (by kernel_rfl) (by kernel_rfl) (by kernel_rfl) rfl (by decide) (by kernel_rfl) bM (jb hs_153) wz ([((ak 0),gB 6 Log_.enc r_151)]:Hp) (by kernel_rfl) (aF (v':=(dV (ak 0) 6 r_151)) 0 rfl (ax hs_153.symm) (aF (v':=(dV (ak 0) 6 r_151)) 214 rfl (ax hs_153.symm) (af ?_)))
           show lJ _ _ _ _ _ _ _ _
           obtain rfl:=ae hF
           exact jO (bs:=([]:List Box)) (os:=([]:List Box)) (xs:=data_1) (o:=gB 6 Log_.enc r_151) (.inl rfl) [] trivial rfl rfl rfl rfl rfl (by kernel_rfl) bM rfl
          ·refine aA rfl hc_150 (ay ?_)
           show lJ _ _ _ _ _ _ _ _
           obtain rfl:=ae hF
           exact jO (bs:=([]:List Box)) (os:=([]:List Box)) (xs:=data_1) (o:=gB 6 Log_.enc v_141) (.inl rfl) [] trivial rfl rfl rfl rfl rfl (by kernel_rfl) bM rfl
end Go.Proofs.YtdpginbnipklcaaGreatDoor.Law

