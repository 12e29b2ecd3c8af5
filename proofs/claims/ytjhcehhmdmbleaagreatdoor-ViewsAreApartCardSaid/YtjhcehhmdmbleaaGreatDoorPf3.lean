/-
 The machine computes these plain functions (written by a program of ours).
-/
import Derived.Test.YtjhcehhmdmbleaaGreatDoorFacts
import Derived.Test.YtjhcehhmdmbleaaGreatDoorDefs
import Derived.Test.YtjhcehhmdmbleaaGreatDoorPf2
open Go Go.Eng Go.Proofs
namespace Go.Proofs.YtjhcehhmdmbleaaGreatDoor.Law
set_option maxRecDepth 100000
set_option linter.unusedVariables false
set_option maxHeartbeats 1000000
theorem jL {data_1:(List Run)} {a_2:Int} {b_3:Int} {r:(List Run)} (hF:bO data_1 a_2 b_3=some r) :
  FnM Tryz.prog 304 [(dV (aJ 0) 2 data_1),(vI a_2),(vI b_3),(.fn 195 [])] (([]:List Box)++gI 2 Run.enc data_1) (.tup []) (([]:List Box).map some++gT data_1 (gB 2 Run.enc r)):=by
 refine FnM.of_wHv ⟨Tryz.prog,53,[],[]⟩ rfl Tryz.func304 rfl rfl (Nat.le_of_ble_eq_true rfl) (by kernel_rfl) ?_
 unfold bO at hF
 refine af (aa (ae (vI a_2) wz rfl (ae (vI (w64 (a_2 + 1))) wz rfl (ae (vI (w64 (a_2 + 1))) wz rfl (ai ?_)))))
 obtain ⟨o_13,hj_14,hF⟩:=bind_some hF
 obtain ⟨nq_51,hj_14⟩:=eY hj_14
 refine aG (β:=((List Run)×Int)) (fun (s_10:(List Run)×Int)=>([]:List (Nat×V))) (fun (s_10:(List Run)×Int)=>([((aJ 0),gB 2 Run.enc s_10.1)]:Hp)) (fun p=>o_13 = .go p) ?_ ?_
 ·refine aF (aW (β:=Nat×((List Run)×Int)) (fun p=>(fun (k_5:Nat) (s_10:(List Run)×Int)=>([(0,(dV (aJ 0) 2 s_10.1)),(1,(vI a_2)),(2,(vI b_3)),(3,(.fn 195 [])),(8,(vI s_10.2))]:List (Nat×V))) p.1 p.2) (fun p=>(fun (k_5:Nat) (s_10:(List Run)×Int)=>([((aJ 0),gB 2 Run.enc s_10.1)]:Hp)) p.1 p.2) (fun p=>iterN (fun s=>bI b_3 a_2 s) p.1 p.2=some o_13) (fun p=>p.1) (nq_51,(data_1,(w64 (a_2 + 1)))) hj_14 rfl (aH rfl) ?_)
  rintro ⟨k_5,s_10⟩ hL_12
  dsimp only at hL_12
  cases k_5 with
  | zero=>cases hL_12
  | succ k_5 =>
   obtain ⟨c_,hc_11,hL_12⟩:=bind_some hL_12
   unfold bI at hc_11
   refine af (af (aa (ae (vI s_10.2) wz rfl (ae (vI b_3) wz rfl (ae (vB (decide (s_10.2 < b_3))) wz rfl (ai ?_))))))
   rcases ak hc_11 with⟨hc_15,hc_11⟩ | ⟨hc_15,hc_11⟩
   ·refine aB rfl hc_15 (av (af (aF (af (aa (ae (vI s_10.2) wz rfl (ae (vI s_10.2) wz rfl (ai ?_))))))))
    obtain ⟨o_24,hj_25,hc_11⟩:=bind_some hc_11
    obtain ⟨nq_50,hj_25⟩:=eY hj_25
    refine aG (β:=((List Run)×Int)) (fun (s_21:(List Run)×Int)=>([(0,(dV (aJ 0) 2 s_21.1)),(1,(vI a_2)),(2,(vI b_3)),(3,(.fn 195 [])),(8,(vI s_10.2))]:List (Nat×V))) (fun (s_21:(List Run)×Int)=>([((aJ 0),gB 2 Run.enc s_21.1)]:Hp)) (fun p=>o_24 = .go p) ?_ ?_
    ·refine aF (aW (β:=Nat×((List Run)×Int)) (fun p=>(fun (k_16:Nat) (s_21:(List Run)×Int)=>([(0,(dV (aJ 0) 2 s_21.1)),(1,(vI a_2)),(2,(vI b_3)),(3,(.fn 195 [])),(8,(vI s_10.2)),(9,(vI s_21.2))]:List (Nat×V))) p.1 p.2) (fun p=>(fun (k_16:Nat) (s_21:(List Run)×Int)=>([((aJ 0),gB 2 Run.enc s_21.1)]:Hp)) p.1 p.2) (fun p=>iterN (fun s=>cz a_2 s) p.1 p.2=some o_24) (fun p=>p.1) (nq_50,(s_10.1,s_10.2)) hj_25 rfl (aH rfl) ?_)
     rintro ⟨k_16,s_21⟩ hL_23
     dsimp only at hL_23
     cases k_16 with
     | zero=>cases hL_23
     | succ k_16 =>
      obtain ⟨c_,hc_22,hL_23⟩:=bind_some hL_23
      unfold cz at hc_22
      refine af (af ?_)
      obtain ⟨v_26,h_27,hc_22⟩:=bind_some hc_22
      refine aG (β:=Unit) (fun _=>([(0,(dV (aJ 0) 2 s_21.1)),(1,(vI a_2)),(2,(vI b_3)),(3,(.fn 195 [])),(8,(vI s_10.2)),(9,(vI s_21.2)),(34,(vB v_26))]:List (Nat×V))) (fun _=>([((aJ 0),gB 2 Run.enc s_21.1)]:Hp)) (fun _=>True) ?_ ?_
      ·refine bB (ae (vI s_21.2) wz rfl (ae (vI a_2) wz rfl (ae (vB (decide (s_21.2 > a_2))) wz rfl ?_)))
       rcases ak h_27 with⟨hc_28,h_27⟩ | ⟨hc_28,h_27⟩
       ·refine aD rfl hc_28 wz (ae (.fn 195 []) wa rfl (ae (dV (aJ 0) 2 s_21.1) wa rfl (ae (vI s_21.2) wa rfl ?_)))
        obtain ⟨_,hi_29,h_27⟩:=bind_some h_27
        refine vJ lg rfl rfl (rJ hi_29) (ny hi_29) wa ?_
        obtain ⟨e_30,hy_31,h_27⟩:=bind_some h_27
        refine tX 8 0 (.inr (by kernel_rfl)) (fun _ _ ag=>trivial) mX vX rfl rfl hy_31 (.d (.agg (Run.enc e_30))) rfl wa (ae (dV (aJ 0) 2 s_21.1) wa rfl (ae (vI s_21.2) wa rfl (ae (vI (w64 (s_21.2 - 1))) wa rfl ?_)))
        obtain ⟨_,hi_32,h_27⟩:=bind_some h_27
        refine vJ lg rfl rfl (rJ hi_32) (ny hi_32) wa ?_
        obtain ⟨e_33,hy_34,h_27⟩:=bind_some h_27
        refine tX 13 0 (.inr (by kernel_rfl)) (fun _ _ ag=>⟨.inl ⟨rfl,rfl⟩,trivial⟩) mX vX rfl rfl hy_34 (.d (.agg (Run.enc e_33))) rfl wa ?_
        obtain ⟨r_35,hr_36,h_27⟩:=bind_some h_27
        refine aC (AP hr_36) rfl hb195 rfl rfl rfl rfl wa (ae (vB (decide (r_35 < 0))) wa rfl (ae (vB (decide (r_35 < 0))) wz rfl (ai ?_)))
        obtain rfl:=ah h_27
        exact cu
       ·refine aD rfl hc_28 wz (aj wa (aj wa (aj wa (aj wa (aj wa (aj wa (aj wa (aj wa (aj wa (aj wa (aj wa (aj wa (ae (vB false) wz rfl (ai ?_))))))))))))))
        obtain rfl:=ah h_27
        exact cu
      ·rintro ⟨⟩ _ sl_ H_ hp_ hq_
       refine aK _ hp_ hq_ ?_
       rcases ak hc_22 with⟨hc_37,hc_22⟩ | ⟨hc_37,hc_22⟩
       ·refine aB rfl hc_37 (av (af (aF (bB (ae (dV (aJ 0) 2 s_21.1) wz rfl (ae (vI s_21.2) wz rfl (ae (dV (aJ 0) 2 s_21.1) wz rfl (ae (vI s_21.2) wz rfl (ae (vI (w64 (s_21.2 - 1))) wz rfl (ae (dV (aJ 0) 2 s_21.1) wz rfl (ae (vI s_21.2) wz rfl (ae (vI (w64 (s_21.2 - 1))) wz rfl ?_))))))))))))
        obtain ⟨_,hi_38,hc_22⟩:=bind_some hc_22
        refine vJ lg rfl rfl (rJ hi_38) (ny hi_38) wz ?_
        obtain ⟨e_39,hy_40,hc_22⟩:=bind_some hc_22
        refine tX 9 0 (.inr (by kernel_rfl)) (fun _ _ ag=>trivial) mX vX rfl rfl hy_40 (.d (.agg (Run.enc e_39))) rfl wz (ae (dV (aJ 0) 2 s_21.1) wz rfl (ae (vI s_21.2) wz rfl ?_))
        obtain ⟨_,hi_41,hc_22⟩:=bind_some hc_22
        refine vJ lg rfl rfl (rJ hi_41) (ny hi_41) wz ?_
        obtain ⟨e_42,hy_43,hc_22⟩:=bind_some hc_22
        refine tX 13 0 (.inr (by kernel_rfl)) (fun _ _ ag=>⟨.inl ⟨rfl,rfl⟩,trivial⟩) mX vX rfl rfl hy_43 (.d (.agg (Run.enc e_42))) rfl wz ?_
        obtain ⟨_,hi_44,hc_22⟩:=bind_some hc_22
        refine vJ lg rfl rfl (rJ hi_44) (ny hi_44) wz ?_
        obtain ⟨e_45,hy_46,hc_22⟩:=bind_some hc_22
        refine FW 15 (.inr (by kernel_rfl)) (fun _ _ ag=>⟨.inr (.inr (by kernel_rfl)),⟨.inr (.inr (by kernel_rfl)),trivial⟩⟩) 0 mX rfl rfl hy_46 e_39 rfl wz (lK (v':=(dV (aJ 0) 2 (s_21.1.set (0 + (s_21.2).toNat) e_39))) 0 rfl (mQ (by simp)) (lK (v':=(dV (aJ 0) 2 (s_21.1.set (0 + (s_21.2).toNat) e_39))) 37 rfl (mQ (by simp)) (lK (v':=(dV (aJ 0) 2 (s_21.1.set (0 + (s_21.2).toNat) e_39))) 39 rfl (mQ (by simp)) (lK (v':=(dV (aJ 0) 2 (s_21.1.set (0 + (s_21.2).toNat) e_39))) 42 rfl (mQ (by simp)) (lK (v':=(dV (aJ 0) 2 (s_21.1.set (0 + (s_21.2).toNat) e_39))) 47 rfl (mQ (by simp)) ?_)))))
        obtain ⟨_,hi_47,hc_22⟩:=bind_some hc_22
        refine vJ lg rfl rfl (rJ hi_47) (ny hi_47) wz ?_
        obtain ⟨e_48,hy_49,hc_22⟩:=bind_some hc_22
        refine FW 17 (.inr (by kernel_rfl)) (fun _ _ ag=>⟨.inr (.inr (by kernel_rfl)),⟨.inr (.inr (by kernel_rfl)),⟨.inr (.inr (by kernel_rfl)),trivial⟩⟩⟩) 0 mX rfl rfl hy_49 e_42 rfl wz (lK (v':=(dV (aJ 0) 2 ((s_21.1.set (0 + (s_21.2).toNat) e_39).set (0 + ((w64 (s_21.2 - 1))).toNat) e_42))) 0 rfl (mQ (by simp)) (lK (v':=(dV (aJ 0) 2 ((s_21.1.set (0 + (s_21.2).toNat) e_39).set (0 + ((w64 (s_21.2 - 1))).toNat) e_42))) 37 rfl (mQ (by simp)) (lK (v':=(dV (aJ 0) 2 ((s_21.1.set (0 + (s_21.2).toNat) e_39).set (0 + ((w64 (s_21.2 - 1))).toNat) e_42))) 39 rfl (mQ (by simp)) (lK (v':=(dV (aJ 0) 2 ((s_21.1.set (0 + (s_21.2).toNat) e_39).set (0 + ((w64 (s_21.2 - 1))).toNat) e_42))) 42 rfl (mQ (by simp)) (lK (v':=(dV (aJ 0) 2 ((s_21.1.set (0 + (s_21.2).toNat) e_39).set (0 + ((w64 (s_21.2 - 1))).toNat) e_42))) 47 rfl (mQ (by simp)) (ai (aa (ae (vI s_21.2) wz rfl (ae (vI (w64 (s_21.2 - 1))) wz rfl (ae (vI (w64 (s_21.2 - 1))) wz rfl (ai ?_)))))))))))
        obtain rfl:=ah hc_22
        exact aR (k_16,(((s_21.1.set (0 + (s_21.2).toNat) e_39).set (0 + ((w64 (s_21.2 - 1))).toNat) e_42),(w64 (s_21.2 - 1)))) hL_23 (Nat.lt_succ_self _) rfl (aH rfl)
       ·refine aA rfl hc_37 (aS ?_)
        obtain rfl:=ah hc_22
        obtain rfl:=ah hL_23
        exact aP ((s_21.1,s_21.2)) rfl rfl (aH rfl)
    ·rintro s_21 ho_ sl_ H_ hp_ hq_
     subst ho_
     refine aK _ hp_ hq_ (aa (ae (vI s_10.2) wz rfl (ae (vI (w64 (s_10.2 + 1))) wz rfl (ae (vI (w64 (s_10.2 + 1))) wz rfl (ai ?_)))))
     obtain rfl:=ah hc_11
     exact aR (k_5,(s_21.1,(w64 (s_10.2 + 1)))) hL_12 (Nat.lt_succ_self _) rfl (aH rfl)
   ·refine aA rfl hc_15 (aS ?_)
    obtain rfl:=ah hc_11
    obtain rfl:=ah hL_12
    exact aP ((s_10.1,s_10.2)) rfl rfl (aH rfl)
 ·rintro s_10 ho_ sl_ H_ hp_ hq_
  subst ho_
  show xN _ _ _ _ _ _ _ _
  obtain rfl:=ah hF
  exact Kw (H0:=([((aJ 0),gB 2 Run.enc s_10.1)]:Hp)) (sl':=envS []) hq_ (Ja (bs:=([]:List Box)) (os:=([]:List Box)) (xs:=data_1) (o:=gB 2 Run.enc s_10.1) (.inl rfl) [] trivial rfl rfl rfl rfl rfl (by kernel_rfl) A8 rfl)
theorem kY {data_1:(List Run)} {a_2:Int} {b_3:Int} {limit_4:Int} {r:(List Run)} (hF:bR data_1 a_2 b_3 limit_4=some r) :
  FnM Tryz.prog 263 [(dV (aJ 0) 2 data_1),(vI a_2),(vI b_3),(vI limit_4),(.fn 195 [])] (([]:List Box)++gI 2 Run.enc data_1) (.tup []) (([]:List Box).map some++gT data_1 (gB 2 Run.enc r)):=by
 refine FnM.of_wHv ⟨Tryz.prog,148,[],[]⟩ rfl Tryz.func263 rfl rfl (Nat.le_of_ble_eq_true rfl) (by kernel_rfl) ?_
 unfold bR at hF
 refine af (aa (ae (vB true) wz rfl (ai (af (aa (ae (vB true) wz rfl (ai ?_)))))))
 obtain ⟨o_14,hj_15,hF⟩:=bind_some hF
 obtain ⟨nq_21,hj_15⟩:=eY hj_15
 refine aG (β:=(Unit)) (fun (s_11:Unit)=>([]:List (Nat×V))) (fun (s_11:Unit)=>([((aJ 0),gB 2 Run.enc data_1)]:Hp)) (fun p=>o_14 = .go p) ?_ ?_
 ·refine aF (aW (β:=Nat×(Unit)) (fun p=>(fun (k_6:Nat) (s_11:Unit)=>([(0,(dV (aJ 0) 2 data_1)),(1,(vI a_2)),(2,(vI b_3)),(3,(vI limit_4)),(4,(.fn 195 [])),(10,(vB true)),(11,(vB true))]:List (Nat×V))) p.1 p.2) (fun p=>(fun (k_6:Nat) (s_11:Unit)=>([((aJ 0),gB 2 Run.enc data_1)]:Hp)) p.1 p.2) (fun p=>iterN (fun s=>bZ b_3 a_2 data_1 limit_4 s) p.1 p.2=some o_14) (fun p=>p.1) (nq_21,()) hj_15 rfl (aH rfl) ?_)
  rintro ⟨k_6,s_11⟩ hL_13
  dsimp only at hL_13
  cases k_6 with
  | zero=>cases hL_13
  | succ k_6 =>
   obtain ⟨c_,hc_12,hL_13⟩:=bind_some hL_13
   unfold bZ at hc_12
   refine aF (af (aa (ae (vI b_3) wz rfl (ae (vI a_2) wz rfl (ae (vI (w64 (b_3 - a_2))) wz rfl (ae (vI (w64 (b_3 - a_2))) wz rfl (ai (af (af (aa (ae (vI (w64 (b_3 - a_2))) wz rfl (ae (vB (decide ((w64 (b_3 - a_2))≤12))) wz rfl (ai ?_)))))))))))))
   rcases ak hc_12 with⟨hc_16,hc_12⟩ | ⟨hc_16,hc_12⟩
   ·refine aB rfl hc_16 (af (aa (ae (dV (aJ 0) 2 data_1) wz rfl (ae (vI a_2) wz rfl (ae (vI b_3) wz rfl (ae (.fn 195 []) wz rfl ?_))))))
    obtain ⟨r_17,hr_18,hc_12⟩:=bind_some hc_12
    obtain ⟨_,hs_19,hc_12⟩:=bind_some hc_12
    replace hs_19:=zt hs_19
    refine y7 0 [] 0 0 il ft (jL hr_18) rfl hb304 rfl rfl rfl (by kernel_rfl) rfl (.inr (.inl rfl)) rfl (by kernel_rfl) (by kernel_rfl) (by kernel_rfl) (by kernel_rfl) rfl (by decide) (by kernel_rfl) A8 (KW hs_19) wz ([((aJ 0),gB 2 Run.enc r_17)]:Hp) (by kernel_rfl) (lK (v':=(dV (aJ 0) 2 r_17)) 0 rfl (mQ hs_19.symm) (lK (v':=(dV (aJ 0) 2 r_17)) 26 rfl (mQ hs_19.symm) (ai ?_)))
    obtain rfl:=ah hc_12
    obtain rfl:=ah hL_13
    obtain rfl:=ah hF
    exact ay (Ja (bs:=([]:List Box)) (os:=([]:List Box)) (xs:=data_1) (o:=gB 2 Run.enc r_17) (.inr rfl) [] trivial rfl rfl rfl rfl rfl (by kernel_rfl) A8 rfl)
   ·refine aA rfl hc_16 (av (af (af (aa (ae (vI limit_4) wz rfl (ae (vB (limit_4 == 0)) wz rfl (ai ?_)))))))
    rcases ak hc_12 with⟨hc_20,hc_12⟩ | ⟨hc_20,hc_12⟩
    ·refine aB rfl hc_20 (af (aa (ae (dV (aJ 0) 2 data_1) wz rfl (ae (vI a_2) wz rfl (ae (vI b_3) wz rfl (ae (.fn 195 []) wz rfl ?_))))))
     cases hc_12
    ·refine aA rfl hc_20 (av (af (af (aa (ae (vB true) wz rfl (ae (vB false) wz rfl (ai (aA rfl rfl (av (af (aa (ae (dV (aJ 0) 2 data_1) wz rfl (ae (vI a_2) wz rfl (ae (vI b_3) wz rfl (ae (.fn 195 []) wz rfl ?_)))))))))))))))
     cases hc_12
 ·rintro s_11 ho_ sl_ H_ hp_ hq_
  subst ho_
  show xN _ _ _ _ _ _ _ _
  obtain rfl:=ah hF
  exact Kw (H0:=([((aJ 0),gB 2 Run.enc data_1)]:Hp)) (sl':=envS []) hq_ (Ja (bs:=([]:List Box)) (os:=([]:List Box)) (xs:=data_1) (o:=gB 2 Run.enc data_1) (.inl rfl) [] trivial rfl rfl rfl rfl rfl (by kernel_rfl) A8 rfl)
theorem jZ {x_1:(List Run)} {r:(List Run)} (hF:bn x_1=some r) :
  FnM Tryz.prog 194 [(dV (aJ 0) 2 x_1),(.fn 195 [])] (([]:List Box)++gI 2 Run.enc x_1) (.tup []) (([]:List Box).map some++gT x_1 (gB 2 Run.enc r)):=by
 refine FnM.of_wHv ⟨Tryz.prog,14,[],[]⟩ rfl Tryz.func194 rfl rfl (Nat.le_of_ble_eq_true rfl) (by kernel_rfl) ?_
 unfold bn at hF
 refine af (aa (ae (dV (aJ 0) 2 x_1) wz rfl (Ju xE rfl wz (ae (vI (x_1.length:Int)) wz rfl (ai (aa (ae (dV (aJ 0) 2 x_1) wz rfl (ae (vI (x_1.length:Int)) wz rfl (ae (vI (x_1.length:Int)) wz rfl (oh un3 NW rfl wz ?_))))))))))
 obtain ⟨r_3,hr_4,hF⟩:=bind_some hF
 refine aC (zP hr_4) rfl hb167 rfl rfl rfl rfl wz (ae (.fn 195 []) wz rfl ?_)
 obtain ⟨r_5,hr_6,hF⟩:=bind_some hF
 obtain ⟨_,hs_7,hF⟩:=bind_some hF
 replace hs_7:=zt hs_7
 refine y7 0 [] 0 0 il ft (kY hr_6) rfl hb263 rfl rfl rfl (by kernel_rfl) rfl (.inr (.inl rfl)) rfl (by kernel_rfl) (by kernel_rfl) (by kernel_rfl) (by kernel_rfl) rfl (by decide) (by kernel_rfl) A8 (KW hs_7) wz ([((aJ 0),gB 2 Run.enc r_5)]:Hp) (by kernel_rfl) (lK (v':=(dV (aJ 0) 2 r_5)) 0 rfl (mQ hs_7.symm) (lK (v':=(dV (aJ 0) 2 r_5)) 5 rfl (mQ hs_7.symm) (lK (v':=(dV (aJ 0) 2 r_5)) 7 rfl (mQ hs_7.symm) (ai ?_))))
 show xN _ _ _ _ _ _ _ _
 obtain rfl:=ah hF
 exact Ja (bs:=([]:List Box)) (os:=([]:List Box)) (xs:=x_1) (o:=gB 2 Run.enc r_5) (.inl rfl) [] trivial rfl rfl rfl rfl rfl (by kernel_rfl) A8 rfl
theorem vW {l_1:(List Rect)} {y_2:Int} {r:(List Run)} (hF:dE l_1 y_2=some r) :
  FnM Tryz.prog 147 [(vL Rect.enc l_1),(vI y_2)] [] (vL Run.enc r) []:=by
 refine FnM.of_wH ⟨Tryz.prog,84,[],[]⟩ rfl Tryz.func147 rfl rfl (Nat.le_of_ble_eq_true rfl) (by kernel_rfl) ?_
 unfold dE at hF
 refine af (aa (ae .nil wz rfl (ai (af (aa (ae .nil wz rfl (ai (af (af (aa (ae (vL Rect.enc l_1) wz rfl (bP zw rfl wz (ae (vI 0) wz rfl (ai (l5 (fun n_9 => ?_))))))))))))))))
 obtain ⟨o_14,hj_15,hF⟩:=bind_some hF
 obtain ⟨hn_7,hj_15⟩:=aQ hj_15
 refine aG (β:=((List Run))×Nm) (fun p=>(fun (s_8:(List Run)) (n_11:Nm)=>([(5,(gV n_11 2 s_8))]:List (Nat×V))) p.1 p.2) (fun p=>(fun (s_8:(List Run)) (n_11:Nm)=>([(n_11,gB 2 Run.enc s_8)]:Hp)) p.1 p.2) (fun p=>o_14 = .go p.1) ?_ ?_
 ·refine aF (aW (β:=Nat×(List Rect)×((List Run))×Nm) (fun p=>(fun (k_3:Nat) (l_4:List Rect) (s_8:(List Run)) (n_11:Nm)=>([(1,(vI y_2)),(5,(gV n_11 2 s_8)),(12,(vL Rect.enc l_1)),(13,(vI (l_1.length:Int))),(14,(vI (k_3:Int)))]:List (Nat×V))) p.1 p.2.1 p.2.2.1 p.2.2.2) (fun p=>(fun (k_3:Nat) (l_4:List Rect) (s_8:(List Run)) (n_11:Nm)=>([(n_11,gB 2 Run.enc s_8)]:Hp)) p.1 p.2.1 p.2.2.1 p.2.2.2) (fun p=>forR (fun k x s=>iX y_2 k x s) p.2.1 p.1 p.2.2.1=some o_14∧(l_1).drop p.1=p.2.1) (fun p=>p.2.1.length) (0,l_1,([]:List Run),n_9) ⟨hj_15,rfl⟩ rfl (aH rfl) ?_)
  rintro ⟨k_3,l_4,s_8,n_11⟩ ⟨hL_13,hD_6⟩
  dsimp only at hL_13 hD_6
  cases l_4 with
  | nil =>
   obtain rfl:=ah hL_13
   refine af (aa (ae (vB (decide ((k_3:Int) < (l_1.length:Int)))) wz rfl (ai ?_)))
   refine af (aA rfl (drop_nil hD_6) (aS ?_))
   exact aP (s_8,n_11) rfl rfl (aH rfl)
  | cons x_5 l_4 =>
   obtain ⟨c_,hc_12,hL_13⟩:=bind_some hL_13
   refine af (aa (ae (vB (decide ((k_3:Int) < (l_1.length:Int)))) wz rfl (ai ?_)))
   refine af (aB rfl (aX hD_6) (av ?_))
   unfold iX at hc_12
   refine af (aF (af (aa (dL zu rfl rfl (bC hD_6) rfl wz (bJ dx gm rfl (.d (.agg (Rect.enc x_5))) rfl wz (aY 0 (.inl rfl) z45 rfl wz (fun n_16=>bL 0 il ft 1 dx rfl rfl [(vI x_5.X),(vI x_5.Y),(vI x_5.W),(vI x_5.H)] rfl wz (ai (af ?_)))))))))
   obtain ⟨v_17,h_18,hc_12⟩:=bind_some hc_12
   refine aG (β:=Unit) (fun _=>([(1,(vI y_2)),(5,(gV n_11 2 s_8)),(7,(.ref n_16 0 0)),(12,(vL Rect.enc l_1)),(13,(vI (l_1.length:Int))),(14,(vI (k_3:Int))),(30,(vB v_17))]:List (Nat×V))) (fun _=>([(n_11,gB 2 Run.enc s_8),(n_16,some (.cells 4 [(vI x_5.X),(vI x_5.Y),(vI x_5.W),(vI x_5.H)]))]:Hp)) (fun _=>True) ?_ ?_
   ·refine aa (ax fV rfl 1 rfl wz (au 0 1 il ft sz3 ag3 rfl rfl (vI x_5.Y) rfl wz (ae (vI y_2) wz rfl (ae (vB (decide (x_5.Y≤y_2))) wz rfl ?_))))
    rcases ak h_18 with⟨hc_19,h_18⟩ | ⟨hc_19,h_18⟩
    ·refine aD rfl hc_19 wz (ae (vI y_2) wa rfl (ax fV rfl 1 rfl wa (au 0 1 il ft sz3 ag3 rfl rfl (vI x_5.Y) rfl wa (ax kw rfl 3 rfl wa (au 0 1 il ft sz3 ag3 rfl rfl (vI x_5.H) rfl wa (ae (vI (w64 (x_5.Y + x_5.H))) wa rfl (ae (vB (decide (y_2 < (w64 (x_5.Y + x_5.H))))) wa rfl (ae (vB (decide (y_2 < (w64 (x_5.Y + x_5.H))))) wz rfl (ai ?_)))))))))
     obtain rfl:=ah h_18
     exact cu
    ·refine aD rfl hc_19 wz (aj wa (aj wa (aj wa (aj wa (aj wa (aj wa (aj wa (ae (vB false) wz rfl (ai ?_)))))))))
     obtain rfl:=ah h_18
     exact cu
   ·rintro ⟨⟩ _ sl_ H_ hp_ hq_
    refine aK _ hp_ hq_ ?_
    obtain ⟨v_20,h_21,hc_12⟩:=bind_some hc_12
    refine aG (β:=Nm) (fun (n_22:Nm)=>([(1,(vI y_2)),(5,(gV n_22 2 v_20)),(12,(vL Rect.enc l_1)),(13,(vI (l_1.length:Int))),(14,(vI (k_3:Int)))]:List (Nat×V))) (fun (n_22:Nm)=>([(n_22,gB 2 Run.enc v_20),(n_16,some (.cells 4 [(vI x_5.X),(vI x_5.Y),(vI x_5.W),(vI x_5.H)]))]:Hp)) (fun _=>True) ?_ ?_
    ·rcases ak h_21 with⟨hc_23,h_21⟩ | ⟨hc_23,h_21⟩
     ·refine aB rfl hc_23 (aa (ae (gV n_11 2 s_8) wz rfl (ax gQ rfl 0 rfl wz (au 0 1 il ft sz3 ag3 rfl rfl (vI x_5.X) rfl wz (ax gQ rfl 0 rfl wz (au 0 1 il ft sz3 ag3 rfl rfl (vI x_5.X) rfl wz (ax ku rfl 2 rfl wz (au 0 1 il ft sz3 ag3 rfl rfl (vI x_5.W) rfl wz (ae (vI (w64 (x_5.X + x_5.W))) wz rfl (ae (.d (.agg (Run.enc (⟨x_5.X,(w64 (x_5.X + x_5.W))⟩:Run)))) wz (by kernel_rfl) (fH (([(⟨x_5.X,(w64 (x_5.X + x_5.W))⟩:Run)]:List Run).map Run.enc) lg KX rfl rfl rfl rfl rfl wz ?_)))))))))))
      obtain ⟨a_24,hz_25,h_21⟩:=bind_some h_21
      refine kN 0 il ft (i:=0) Bg Bg mX JL rfl (by decide) Ky (by decide) (fun _=>rfl) rfl rfl rfl hz_25 wz (fun n_26=>ae (gV n_26 2 a_24) wz rfl (ai ?_))
      obtain rfl:=ah h_21
      exact aP n_26 trivial rfl (aH rfl)
     ·refine aA rfl hc_23 (av ?_)
      obtain rfl:=ah h_21
      exact aP n_11 trivial rfl (aH rfl)
    ·rintro n_22 _ sl_ H_ hp_ hq_
     refine aK _ hp_ hq_ (aa (dQ (bu hD_6 hn_7) wz rfl (ae (vI ((k_3 + 1:Nat):Int)) wz rfl (ai ?_))))
     obtain rfl:=ah hc_12
     exact aR (k_3 + 1,l_4,v_20,n_22) ⟨hL_13,aN hD_6⟩ (Nat.lt_succ_self _) rfl (aH rfl)
 ·rintro ⟨s_8,n_11⟩ ho_ sl_ H_ hp_ hq_
  subst ho_
  refine aK _ hp_ hq_ (af (aa (ae (gV n_11 2 s_8) wz rfl ?_)))
  obtain ⟨r_27,hr_28,hF⟩:=bind_some hF
  obtain ⟨_,hs_29,hF⟩:=bind_some hF
  replace hs_29:=zt hs_29
  refine y7 0 [] 0 0 il ft (jZ hr_28) rfl hb194 rfl rfl rfl (by kernel_rfl) rfl (.inl rfl) rfl (by kernel_rfl) (by kernel_rfl) (by kernel_rfl) (by kernel_rfl) rfl (by decide) (by kernel_rfl) A8 (KW hs_29) wz ([(n_11,gB 2 Run.enc r_27)]:Hp) (by kernel_rfl) (lK (v':=(gV n_11 2 r_27)) 43 rfl (si hs_29.symm) (lK (v':=(gV n_11 2 r_27)) 5 rfl (si hs_29.symm) (ai (af (aa (ae .nil wz rfl (ai (af (af (aa (ae (gV n_11 2 r_27) wz rfl (Gl xE rfl wz (ae (vI 0) wz rfl (ai (gU 0 rfl (dX 5 0 rfl rfl (dX 43 0 rfl rfl (dX 45 0 rfl rfl (l5 (fun n_36 => ?_))))))))))))))))))))
  obtain ⟨o_41,hj_42,hF⟩:=bind_some hF
  obtain ⟨hn_34,hj_42⟩:=aQ hj_42
  refine aG (β:=((List Run))×Nm) (fun p=>(fun (s_35:(List Run)) (n_38:Nm)=>([(8,(gV n_38 2 s_35))]:List (Nat×V))) p.1 p.2) (fun p=>(fun (s_35:(List Run)) (n_38:Nm)=>([(n_11,gF 2 Run.enc r_27),(n_38,gB 2 Run.enc s_35)]:Hp)) p.1 p.2) (fun p=>o_41 = .go p.1) ?_ ?_
  ·refine aF (aW (β:=Nat×(List Run)×((List Run))×Nm) (fun p=>(fun (k_30:Nat) (l_31:List Run) (s_35:(List Run)) (n_38:Nm)=>([(8,(gV n_38 2 s_35)),(45,(vL Run.enc r_27)),(46,(vI (r_27.length:Int))),(47,(vI (k_30:Int)))]:List (Nat×V))) p.1 p.2.1 p.2.2.1 p.2.2.2) (fun p=>(fun (k_30:Nat) (l_31:List Run) (s_35:(List Run)) (n_38:Nm)=>([(n_11,gF 2 Run.enc r_27),(n_38,gB 2 Run.enc s_35)]:Hp)) p.1 p.2.1 p.2.2.1 p.2.2.2) (fun p=>forR (fun k x s=>fM k x s) p.2.1 p.1 p.2.2.1=some o_41∧(r_27).drop p.1=p.2.1) (fun p=>p.2.1.length) (0,r_27,([]:List Run),n_36) ⟨hj_42,rfl⟩ rfl (aH rfl) ?_)
   rintro ⟨k_30,l_31,s_35,n_38⟩ ⟨hL_40,hD_33⟩
   dsimp only at hL_40 hD_33
   cases l_31 with
   | nil =>
    obtain rfl:=ah hL_40
    refine af (aa (ae (vB (decide ((k_30:Int) < (r_27.length:Int)))) wz rfl (ai ?_)))
    refine af (aA rfl (drop_nil hD_33) (aS ?_))
    exact aP (s_35,n_38) rfl rfl (aH rfl)
   | cons x_32 l_31 =>
    obtain ⟨c_,hc_39,hL_40⟩:=bind_some hL_40
    refine af (aa (ae (vB (decide ((k_30:Int) < (r_27.length:Int)))) wz rfl (ai ?_)))
    refine af (aB rfl (aX hD_33) (av ?_))
    unfold fM at hc_39
    refine af (aF (af (aa (dL lg rfl rfl (bC hD_33) rfl wz (bJ mX vX rfl (.d (.agg (Run.enc x_32))) rfl wz (aY 0 (.inl rfl) JL rfl wz (fun n_43=>bL 0 il ft 2 mX rfl rfl [(vI x_32.f_from),(vI x_32.f_to)] rfl wz (ai (af (aa (ae (gV n_38 2 s_35) wz rfl (Gl xE rfl wz (ae (vI (w64 ((s_35.length:Int) - 1))) wz rfl (ae (vI (w64 ((s_35.length:Int) - 1))) wz rfl (ai (af ?_))))))))))))))))
    obtain ⟨v_44,h_45,hc_39⟩:=bind_some hc_39
    refine aG (β:=Unit) (fun _=>([(8,(gV n_38 2 s_35)),(10,(.ref n_43 0 0)),(11,(vI (w64 ((s_35.length:Int) - 1)))),(45,(vL Run.enc r_27)),(46,(vI (r_27.length:Int))),(47,(vI (k_30:Int))),(65,(vB v_44))]:List (Nat×V))) (fun _=>([(n_11,gF 2 Run.enc r_27),(n_38,gB 2 Run.enc s_35),(n_43,some (.cells 2 [(vI x_32.f_from),(vI x_32.f_to)]))]:Hp)) (fun _=>True) ?_ ?_
    ·refine bB (ae (vI (w64 ((s_35.length:Int) - 1))) wz rfl (ae (vB (decide ((w64 ((s_35.length:Int) - 1))≥0))) wz rfl ?_))
     rcases ak h_45 with⟨hc_46,h_45⟩ | ⟨hc_46,h_45⟩
     ·refine aD rfl hc_46 wz (ax kQ rfl 0 rfl wa (au 4 2 (.inr (by kernel_rfl)) (fun _ _ ag=>trivial) sz3 ag3 rfl rfl (vI x_32.f_from) rfl wa (ae (gV n_38 2 s_35) wa rfl (ae (vI (w64 ((s_35.length:Int) - 1))) wa rfl ?_))))
      obtain ⟨_,hi_47,h_45⟩:=bind_some h_45
      refine Cx lg rfl rfl (rJ hi_47) (ny hi_47) wa (ax qy rfl 1 rfl wa ?_)
      obtain ⟨e_48,hy_49,h_45⟩:=bind_some h_45
      refine tX 9 1 (.inr (by kernel_rfl)) (fun _ _ ag=>⟨.inl ⟨rfl,rfl⟩,trivial⟩) sz3 ag3 rfl rfl hy_49 (vI e_48.f_to) rfl wa (ae (vB (decide (x_32.f_from≤e_48.f_to))) wa rfl (ae (vB (decide (x_32.f_from≤e_48.f_to))) wz rfl (ai ?_)))
      obtain rfl:=ah h_45
      exact cu
     ·refine aD rfl hc_46 wz (aj wa (aj wa (aj wa (aj wa (aj wa (aj wa (aj wa (aj wa (ae (vB false) wz rfl (ai ?_))))))))))
      obtain rfl:=ah h_45
      exact cu
    ·rintro ⟨⟩ _ sl_ H_ hp_ hq_
     refine aK _ hp_ hq_ ?_
     obtain ⟨v_50,h_51,hc_39⟩:=bind_some hc_39
     refine aG (β:=Nm) (fun (n_52:Nm)=>([(8,(gV n_52 2 v_50)),(45,(vL Run.enc r_27)),(46,(vI (r_27.length:Int))),(47,(vI (k_30:Int)))]:List (Nat×V))) (fun (n_52:Nm)=>([(n_11,gF 2 Run.enc r_27),(n_52,gB 2 Run.enc v_50),(n_43,some (.cells 2 [(vI x_32.f_from),(vI x_32.f_to)]))]:Hp)) (fun _=>True) ?_ ?_
     ·rcases ak h_51 with⟨hc_53,h_51⟩ | ⟨hc_53,h_51⟩
      ·refine aB rfl hc_53 (bB (ae (gV n_38 2 s_35) wz rfl (ae (vI (w64 ((s_35.length:Int) - 1))) wz rfl (ae (gV n_38 2 s_35) wz rfl (ae (vI (w64 ((s_35.length:Int) - 1))) wz rfl ?_)))))
       obtain ⟨_,hi_54,h_51⟩:=bind_some h_51
       refine Cx lg rfl rfl (rJ hi_54) (ny hi_54) wz (ax qy rfl 1 rfl wz ?_)
       obtain ⟨e_55,hy_56,h_51⟩:=bind_some h_51
       refine tX 6 1 (.inr (by kernel_rfl)) (fun _ _ ag=>trivial) sz3 ag3 rfl rfl hy_56 (vI e_55.f_to) rfl wz (ax qy rfl 1 rfl wz (au 8 2 (.inr (by kernel_rfl)) (fun _ _ ag=>⟨.inl ⟨rfl,rfl⟩,trivial⟩) sz3 ag3 rfl rfl (vI x_32.f_to) rfl wz (jy (vI (bS e_55.f_to x_32.f_to)) rfl (.inr rfl) wz ?_)))
       obtain ⟨_,hi_57,h_51⟩:=bind_some h_51
       refine Cx lg rfl rfl (rJ hi_57) (ny hi_57) wz (ax qy rfl 1 rfl wz ?_)
       obtain ⟨e_58,hy_59,h_51⟩:=bind_some h_51
       refine FW 12 (.inr (by kernel_rfl)) (fun _ _ ag=>⟨.inr (.inr (by kernel_rfl)),⟨.inr (.inr (by kernel_rfl)),trivial⟩⟩) 1 sz3 rfl rfl hy_59 (⟨e_58.f_from,(bS e_55.f_to x_32.f_to)⟩:Run) rfl wz (lK (v':=(gV n_38 2 (s_35.set (0 + ((w64 ((s_35.length:Int) - 1))).toNat) (⟨e_58.f_from,(bS e_55.f_to x_32.f_to)⟩:Run)))) 8 rfl (si (by simp)) (lK (v':=(gV n_38 2 (s_35.set (0 + ((w64 ((s_35.length:Int) - 1))).toNat) (⟨e_58.f_from,(bS e_55.f_to x_32.f_to)⟩:Run)))) 66 rfl (si (by simp)) (lK (v':=(gV n_38 2 (s_35.set (0 + ((w64 ((s_35.length:Int) - 1))).toNat) (⟨e_58.f_from,(bS e_55.f_to x_32.f_to)⟩:Run)))) 68 rfl (si (by simp)) (ai ?_))))
       obtain rfl:=ah h_51
       exact aP n_38 trivial rfl (aH rfl)
      ·refine aA rfl hc_53 (aa (ae (gV n_38 2 s_35) wz rfl (au 0 2 il ft mX vX rfl rfl (.d (.agg (Run.enc x_32))) rfl wz (fH (([x_32]:List Run).map Run.enc) lg KX rfl rfl rfl rfl rfl wz ?_))))
       obtain ⟨a_60,hz_61,h_51⟩:=bind_some h_51
       refine kN 0 il ft (i:=1) Bg Bg mX JL rfl (by decide) Ky (by decide) (fun _=>rfl) rfl rfl rfl hz_61 wz (fun n_62=>ae (gV n_62 2 a_60) wz rfl (ai ?_))
       obtain rfl:=ah h_51
       exact aP n_62 trivial rfl (aH rfl)
     ·rintro n_52 _ sl_ H_ hp_ hq_
      refine aK _ hp_ hq_ (aa (dQ (bu hD_33 hn_34) wz rfl (ae (vI ((k_30 + 1:Nat):Int)) wz rfl (ai ?_))))
      obtain rfl:=ah hc_39
      exact aR (k_30 + 1,l_31,v_50,n_52) ⟨hL_40,aN hD_33⟩ (Nat.lt_succ_self _) rfl (aH rfl)
  ·rintro ⟨s_35,n_38⟩ ho_ sl_ H_ hp_ hq_
   subst ho_
   refine aK _ hp_ hq_ (af (aa (ae (gV n_38 2 s_35) wz rfl (ae (gV n_38 2 s_35) wz rfl (ai (gU 1 rfl (dX 4 1 rfl rfl (dX 8 1 rfl rfl (dX 83 1 rfl rfl ?_)))))))))
   obtain rfl:=ah hF
   exact ay (aM (.inr rfl) [(vL Run.enc s_35)] ⟨rfl,trivial⟩ rfl rfl rfl)
theorem Eg {l_1:(List Run)} {m_2:(List Run)} {r:(List Run)} (hF:iG l_1 m_2=some r) :
  FnM Tryz.prog 146 [(vL Run.enc l_1),(vL Run.enc m_2)] [] (vL Run.enc r) []:=by
 refine FnM.of_wH ⟨Tryz.prog,88,[],[]⟩ rfl Tryz.func146 rfl rfl (Nat.le_of_ble_eq_true rfl) (by kernel_rfl) ?_
 unfold iG at hF
 refine af (aa (ae .nil wz rfl (ai (af (aa (ae .nil wz rfl (ai (af (aa (ae (vI 0) wz rfl (ai (af (af (aa (ae (vL Run.enc l_1) wz rfl (bP xE rfl wz (ae (vI 0) wz rfl (ai (l5 (fun n_9 => ?_))))))))))))))))))))
 obtain ⟨o_14,hj_15,hF⟩:=bind_some hF
 obtain ⟨hn_7,hj_15⟩:=aQ hj_15
 refine aG (β:=((List Run)×Int)×Nm) (fun p=>(fun (s_8:(List Run)×Int) (n_11:Nm)=>([(5,(gV n_11 2 s_8.1))]:List (Nat×V))) p.1 p.2) (fun p=>(fun (s_8:(List Run)×Int) (n_11:Nm)=>([(n_11,gB 2 Run.enc s_8.1)]:Hp)) p.1 p.2) (fun p=>o_14 = .go p.1) ?_ ?_
 ·refine aF (aW (β:=Nat×(List Run)×((List Run)×Int)×Nm) (fun p=>(fun (k_3:Nat) (l_4:List Run) (s_8:(List Run)×Int) (n_11:Nm)=>([(1,(vL Run.enc m_2)),(5,(gV n_11 2 s_8.1)),(6,(vI s_8.2)),(10,(vL Run.enc l_1)),(11,(vI (l_1.length:Int))),(12,(vI (k_3:Int)))]:List (Nat×V))) p.1 p.2.1 p.2.2.1 p.2.2.2) (fun p=>(fun (k_3:Nat) (l_4:List Run) (s_8:(List Run)×Int) (n_11:Nm)=>([(n_11,gB 2 Run.enc s_8.1)]:Hp)) p.1 p.2.1 p.2.2.1 p.2.2.2) (fun p=>forR (fun k x s=>gW m_2 k x s) p.2.1 p.1 p.2.2.1=some o_14∧(l_1).drop p.1=p.2.1) (fun p=>p.2.1.length) (0,l_1,(([]:List Run),0),n_9) ⟨hj_15,rfl⟩ rfl (aH rfl) ?_)
  rintro ⟨k_3,l_4,s_8,n_11⟩ ⟨hL_13,hD_6⟩
  dsimp only at hL_13 hD_6
  cases l_4 with
  | nil =>
   obtain rfl:=ah hL_13
   refine af (aa (ae (vB (decide ((k_3:Int) < (l_1.length:Int)))) wz rfl (ai ?_)))
   refine af (aA rfl (drop_nil hD_6) (aS ?_))
   exact aP (s_8,n_11) rfl rfl (aH rfl)
  | cons x_5 l_4 =>
   obtain ⟨c_,hc_12,hL_13⟩:=bind_some hL_13
   refine af (aa (ae (vB (decide ((k_3:Int) < (l_1.length:Int)))) wz rfl (ai ?_)))
   refine af (aB rfl (aX hD_6) (av ?_))
   unfold gW at hc_12
   refine af (aF (af (aa (dL lg rfl rfl (bC hD_6) rfl wz (bJ mX vX rfl (.d (.agg (Run.enc x_5))) rfl wz (aY 0 (.inl rfl) JL rfl wz (fun n_16=>bL 0 il ft 1 mX rfl rfl [(vI x_5.f_from),(vI x_5.f_to)] rfl wz (ai (af ?_)))))))))
   obtain ⟨o_25,hj_26,hc_12⟩:=bind_some hc_12
   obtain ⟨nq_72,hj_26⟩:=eY hj_26
   refine aG (β:=(Int)) (fun (s_22:Int)=>([(1,(vL Run.enc m_2)),(5,(gV n_11 2 s_8.1)),(6,(vI s_22)),(8,(.ref n_16 0 0)),(10,(vL Run.enc l_1)),(11,(vI (l_1.length:Int))),(12,(vI (k_3:Int)))]:List (Nat×V))) (fun (s_22:Int)=>([(n_11,gB 2 Run.enc s_8.1),(n_16,some (.cells 2 [(vI x_5.f_from),(vI x_5.f_to)]))]:Hp)) (fun p=>o_25 = .go p) ?_ ?_
   ·refine aF (aW (β:=Nat×(Int)) (fun p=>(fun (k_17:Nat) (s_22:Int)=>([(1,(vL Run.enc m_2)),(5,(gV n_11 2 s_8.1)),(6,(vI s_22)),(8,(.ref n_16 0 0)),(10,(vL Run.enc l_1)),(11,(vI (l_1.length:Int))),(12,(vI (k_3:Int)))]:List (Nat×V))) p.1 p.2) (fun p=>(fun (k_17:Nat) (s_22:Int)=>([(n_11,gB 2 Run.enc s_8.1),(n_16,some (.cells 2 [(vI x_5.f_from),(vI x_5.f_to)]))]:Hp)) p.1 p.2) (fun p=>iterN (fun s=>fA m_2 x_5 s) p.1 p.2=some o_25) (fun p=>p.1) (nq_72,s_8.2) hj_26 rfl (aH rfl) ?_)
    rintro ⟨k_17,s_22⟩ hL_24
    dsimp only at hL_24
    cases k_17 with
    | zero=>cases hL_24
    | succ k_17 =>
     obtain ⟨c_,hc_23,hL_24⟩:=bind_some hL_24
     unfold fA at hc_23
     refine af (af ?_)
     obtain ⟨v_27,h_28,hc_23⟩:=bind_some hc_23
     refine aG (β:=Unit) (fun _=>([(1,(vL Run.enc m_2)),(5,(gV n_11 2 s_8.1)),(6,(vI s_22)),(8,(.ref n_16 0 0)),(10,(vL Run.enc l_1)),(11,(vI (l_1.length:Int))),(12,(vI (k_3:Int))),(29,(vB v_27))]:List (Nat×V))) (fun _=>([(n_11,gB 2 Run.enc s_8.1),(n_16,some (.cells 2 [(vI x_5.f_from),(vI x_5.f_to)]))]:Hp)) (fun _=>True) ?_ ?_
     ·refine bB (ae (vI s_22) wz rfl (ae (vL Run.enc m_2) wz rfl (bP xE rfl wz (ae (vB (decide (s_22 < (m_2.length:Int)))) wz rfl ?_))))
      rcases ak h_28 with⟨hc_29,h_28⟩ | ⟨hc_29,h_28⟩
      ·refine aD rfl hc_29 wz (ae (vL Run.enc m_2) wa rfl (ae (vI s_22) wa rfl ?_))
       obtain ⟨y_30,hy_31,h_28⟩:=bind_some h_28
       refine dL lg rfl rfl hy_31 rfl wa (lW qy rfl [.int .i64 y_30.f_to] rfl rfl wa (bJ sz3 ag3 rfl (vI y_30.f_to) rfl wa (ax kQ rfl 0 rfl wa (au 11 1 (.inr (by kernel_rfl)) (fun _ _ ag=>trivial) sz3 ag3 rfl rfl (vI x_5.f_from) rfl wa (ae (vB (decide (y_30.f_to≤x_5.f_from))) wa rfl (ae (vB (decide (y_30.f_to≤x_5.f_from))) wz rfl (ai ?_)))))))
       obtain rfl:=ah h_28
       exact cu
      ·refine aD rfl hc_29 wz (aj wa (aj wa (aj wa (aj wa (aj wa (aj wa (aj wa (aj wa (ae (vB false) wz rfl (ai ?_))))))))))
       obtain rfl:=ah h_28
       exact cu
     ·rintro ⟨⟩ _ sl_ H_ hp_ hq_
      refine aK _ hp_ hq_ ?_
      rcases ak hc_23 with⟨hc_32,hc_23⟩ | ⟨hc_32,hc_23⟩
      ·refine aB rfl hc_32 (av (aF (aa (ae (vI s_22) wz rfl (ae (vI (w64 (s_22 + 1))) wz rfl (ae (vI (w64 (s_22 + 1))) wz rfl (ai ?_)))))))
       obtain rfl:=ah hc_23
       exact aR (k_17,(w64 (s_22 + 1))) hL_24 (Nat.lt_succ_self _) rfl (aH rfl)
      ·refine aA rfl hc_32 (aS ?_)
       obtain rfl:=ah hc_23
       obtain rfl:=ah hL_24
       exact aP (s_22) rfl rfl (aH rfl)
   ·rintro s_22 ho_ sl_ H_ hp_ hq_
    subst ho_
    refine aK _ hp_ hq_ (af (af (aa (ae (vI s_22) wz rfl (ae (vI s_22) wz rfl (ai ?_))))))
    obtain ⟨o_43,hj_44,hc_12⟩:=bind_some hc_12
    obtain ⟨nq_71,hj_44⟩:=eY hj_44
    refine aG (β:=((List Run)×Int×Int)×Nm) (fun p=>(fun (s_38:(List Run)×Int×Int) (n_40:Nm)=>([(1,(vL Run.enc m_2)),(5,(gV n_40 2 s_38.1)),(6,(vI s_22)),(8,(.ref n_16 0 0)),(10,(vL Run.enc l_1)),(11,(vI (l_1.length:Int))),(12,(vI (k_3:Int)))]:List (Nat×V))) p.1 p.2) (fun p=>(fun (s_38:(List Run)×Int×Int) (n_40:Nm)=>([(n_40,gB 2 Run.enc s_38.1),(n_16,some (.cells 2 [(vI s_38.2.2),(vI x_5.f_to)]))]:Hp)) p.1 p.2) (fun p=>o_43 = .go p.1) ?_ ?_
    ·refine aF (aW (β:=Nat×((List Run)×Int×Int)×Nm) (fun p=>(fun (k_33:Nat) (s_38:(List Run)×Int×Int) (n_40:Nm)=>([(1,(vL Run.enc m_2)),(5,(gV n_40 2 s_38.1)),(6,(vI s_22)),(8,(.ref n_16 0 0)),(9,(vI s_38.2.1)),(10,(vL Run.enc l_1)),(11,(vI (l_1.length:Int))),(12,(vI (k_3:Int)))]:List (Nat×V))) p.1 p.2.1 p.2.2) (fun p=>(fun (k_33:Nat) (s_38:(List Run)×Int×Int) (n_40:Nm)=>([(n_40,gB 2 Run.enc s_38.1),(n_16,some (.cells 2 [(vI s_38.2.2),(vI x_5.f_to)]))]:Hp)) p.1 p.2.1 p.2.2) (fun p=>iterN (fun s=>dR m_2 x_5 s) p.1 p.2.1=some o_43) (fun p=>p.1) (nq_71,(s_8.1,s_22,x_5.f_from),n_11) hj_44 rfl (aH rfl) ?_)
     rintro ⟨k_33,s_38,n_40⟩ hL_42
     dsimp only at hL_42
     cases k_33 with
     | zero=>cases hL_42
     | succ k_33 =>
      obtain ⟨c_,hc_41,hL_42⟩:=bind_some hL_42
      unfold dR at hc_41
      refine af (af ?_)
      obtain ⟨v_45,h_46,hc_41⟩:=bind_some hc_41
      refine aG (β:=Unit) (fun _=>([(1,(vL Run.enc m_2)),(5,(gV n_40 2 s_38.1)),(6,(vI s_22)),(8,(.ref n_16 0 0)),(9,(vI s_38.2.1)),(10,(vL Run.enc l_1)),(11,(vI (l_1.length:Int))),(12,(vI (k_3:Int))),(46,(vB v_45))]:List (Nat×V))) (fun _=>([(n_40,gB 2 Run.enc s_38.1),(n_16,some (.cells 2 [(vI s_38.2.2),(vI x_5.f_to)]))]:Hp)) (fun _=>True) ?_ ?_
      ·refine bB (ae (vI s_38.2.1) wz rfl (ae (vL Run.enc m_2) wz rfl (bP xE rfl wz (ae (vB (decide (s_38.2.1 < (m_2.length:Int)))) wz rfl ?_))))
       rcases ak h_46 with⟨hc_47,h_46⟩ | ⟨hc_47,h_46⟩
       ·refine aD rfl hc_47 wz (ae (vL Run.enc m_2) wa rfl (ae (vI s_38.2.1) wa rfl ?_))
        obtain ⟨y_48,hy_49,h_46⟩:=bind_some h_46
        refine dL lg rfl rfl hy_49 rfl wa (lW kQ rfl [.int .i64 y_48.f_from,.int .i64 y_48.f_to] rfl rfl wa (bJ sz3 ag3 rfl (vI y_48.f_from) rfl wa (ax qy rfl 1 rfl wa (au 11 1 (.inr (by kernel_rfl)) (fun _ _ ag=>trivial) sz3 ag3 rfl rfl (vI x_5.f_to) rfl wa (ae (vB (decide (y_48.f_from < x_5.f_to))) wa rfl (ae (vB (decide (y_48.f_from < x_5.f_to))) wz rfl (ai ?_)))))))
        obtain rfl:=ah h_46
        exact cu
       ·refine aD rfl hc_47 wz (aj wa (aj wa (aj wa (aj wa (aj wa (aj wa (aj wa (aj wa (ae (vB false) wz rfl (ai ?_))))))))))
        obtain rfl:=ah h_46
        exact cu
      ·rintro ⟨⟩ _ sl_ H_ hp_ hq_
       refine aK _ hp_ hq_ ?_
       rcases ak hc_41 with⟨hc_50,hc_41⟩ | ⟨hc_50,hc_41⟩
       ·refine aB rfl hc_50 (av (af (aF (af (af (bB (ae (vL Run.enc m_2) wz rfl (ae (vI s_38.2.1) wz rfl ?_))))))))
        obtain ⟨y_51,hy_52,hc_41⟩:=bind_some hc_41
        refine dL lg rfl rfl hy_52 rfl wz (lW kQ rfl [.int .i64 y_51.f_from,.int .i64 y_51.f_to] rfl rfl wz (bJ sz3 ag3 rfl (vI y_51.f_from) rfl wz (ax kQ rfl 0 rfl wz (au 6 1 (.inr (by kernel_rfl)) (fun _ _ ag=>trivial) sz3 ag3 rfl rfl (vI s_38.2.2) rfl wz (ae (vB (decide (y_51.f_from > s_38.2.2))) wz rfl (ai ?_))))))
        obtain ⟨v_53,h_54,hc_41⟩:=bind_some hc_41
        refine aG (β:=Nm) (fun (n_55:Nm)=>([(1,(vL Run.enc m_2)),(5,(gV n_55 2 v_53)),(6,(vI s_22)),(8,(.ref n_16 0 0)),(9,(vI s_38.2.1)),(10,(vL Run.enc l_1)),(11,(vI (l_1.length:Int))),(12,(vI (k_3:Int)))]:List (Nat×V))) (fun (n_55:Nm)=>([(n_55,gB 2 Run.enc v_53),(n_16,some (.cells 2 [(vI s_38.2.2),(vI x_5.f_to)]))]:Hp)) (fun _=>True) ?_ ?_
        ·rcases ak h_54 with⟨hc_56,h_54⟩ | ⟨hc_56,h_54⟩
         ·refine aB rfl hc_56 (bB (ae (gV n_40 2 s_38.1) wz rfl (ax kQ rfl 0 rfl wz (au 2 1 (.inr (by kernel_rfl)) (fun _ _ ag=>trivial) sz3 ag3 rfl rfl (vI s_38.2.2) rfl wz (ae (vL Run.enc m_2) wz rfl (ae (vI s_38.2.1) wz rfl ?_))))))
          obtain ⟨y_57,hy_58,h_54⟩:=bind_some h_54
          refine dL lg rfl rfl hy_58 rfl wz (lW kQ rfl [.int .i64 y_57.f_from,.int .i64 y_57.f_to] rfl rfl wz (bJ sz3 ag3 rfl (vI y_57.f_from) rfl wz (ae (.d (.agg (Run.enc (⟨s_38.2.2,y_57.f_from⟩:Run)))) wz (by kernel_rfl) (fH (([(⟨s_38.2.2,y_57.f_from⟩:Run)]:List Run).map Run.enc) lg KX rfl rfl rfl rfl rfl wz ?_))))
          obtain ⟨a_59,hz_60,h_54⟩:=bind_some h_54
          refine kN 10 (.inr (by kernel_rfl)) (fun _ _ ag=>⟨.inr (.inr (by kernel_rfl)),trivial⟩) (i:=0) Bg Bg mX JL rfl (by decide) Ky (by decide) (fun _=>rfl) rfl rfl rfl hz_60 wz (fun n_61=>ae (gV n_61 2 a_59) wz rfl (ai ?_))
          obtain rfl:=ah h_54
          exact aP n_61 trivial rfl (aH rfl)
         ·refine aA rfl hc_56 (av ?_)
          obtain rfl:=ah h_54
          exact aP n_40 trivial rfl (aH rfl)
        ·rintro n_55 _ sl_ H_ hp_ hq_
         refine aK _ hp_ hq_ (bB (ax kQ rfl 0 rfl wz (au 1 1 (.inr (by kernel_rfl)) (fun _ _ ag=>trivial) sz3 ag3 rfl rfl (vI s_38.2.2) rfl wz (ae (vL Run.enc m_2) wz rfl (ae (vI s_38.2.1) wz rfl ?_)))))
         obtain ⟨y_62,hy_63,hc_41⟩:=bind_some hc_41
         refine dL lg rfl rfl hy_63 rfl wz (lW qy rfl [.int .i64 y_62.f_to] rfl rfl wz (bJ sz3 ag3 rfl (vI y_62.f_to) rfl wz (jy (vI (bS s_38.2.2 y_62.f_to)) rfl (.inr rfl) wz (ax kQ rfl 0 rfl wz (bL 9 (.inr (by kernel_rfl)) (fun _ _ ag=>⟨.inr (.inr (by kernel_rfl)),trivial⟩) 1 sz3 rfl rfl [(vI (bS s_38.2.2 y_62.f_to)),(vI x_5.f_to)] rfl wz (ai (aa (ae (vI s_38.2.1) wz rfl (ae (vI (w64 (s_38.2.1 + 1))) wz rfl (ae (vI (w64 (s_38.2.1 + 1))) wz rfl (ai ?_)))))))))))
         obtain rfl:=ah hc_41
         exact aR (k_33,(v_53,(w64 (s_38.2.1 + 1)),(bS s_38.2.2 y_62.f_to)),n_55) hL_42 (Nat.lt_succ_self _) rfl (aH rfl)
       ·refine aA rfl hc_50 (aS ?_)
        obtain rfl:=ah hc_41
        obtain rfl:=ah hL_42
        exact aP ((s_38.1,s_38.2.1,s_38.2.2),n_40) rfl rfl (aH rfl)
    ·rintro ⟨s_38,n_40⟩ ho_ sl_ H_ hp_ hq_
     subst ho_
     refine aK _ hp_ hq_ (af (aa (ax kQ rfl 0 rfl wz (au 0 1 il ft sz3 ag3 rfl rfl (vI s_38.2.2) rfl wz (ax qy rfl 1 rfl wz (au 0 1 il ft sz3 ag3 rfl rfl (vI x_5.f_to) rfl wz (ae (vB (decide (s_38.2.2 < x_5.f_to))) wz rfl (ai ?_))))))))
     obtain ⟨v_64,h_65,hc_12⟩:=bind_some hc_12
     refine aG (β:=Nm) (fun (n_66:Nm)=>([(1,(vL Run.enc m_2)),(5,(gV n_66 2 v_64)),(6,(vI s_22)),(10,(vL Run.enc l_1)),(11,(vI (l_1.length:Int))),(12,(vI (k_3:Int)))]:List (Nat×V))) (fun (n_66:Nm)=>([(n_66,gB 2 Run.enc v_64),(n_16,some (.cells 2 [(vI s_38.2.2),(vI x_5.f_to)]))]:Hp)) (fun _=>True) ?_ ?_
     ·rcases ak h_65 with⟨hc_67,h_65⟩ | ⟨hc_67,h_65⟩
      ·refine aB rfl hc_67 (aa (ae (gV n_40 2 s_38.1) wz rfl (au 0 1 il ft mX vX rfl rfl (.d (.agg (Run.enc (⟨s_38.2.2,x_5.f_to⟩:Run)))) rfl wz (fH (([(⟨s_38.2.2,x_5.f_to⟩:Run)]:List Run).map Run.enc) lg KX rfl rfl rfl rfl rfl wz ?_))))
       obtain ⟨a_68,hz_69,h_65⟩:=bind_some h_65
       refine kN 0 il ft (i:=0) Bg Bg mX JL rfl (by decide) Ky (by decide) (fun _=>rfl) rfl rfl rfl hz_69 wz (fun n_70=>ae (gV n_70 2 a_68) wz rfl (ai ?_))
       obtain rfl:=ah h_65
       exact aP n_70 trivial rfl (aH rfl)
      ·refine aA rfl hc_67 (av ?_)
       obtain rfl:=ah h_65
       exact aP n_40 trivial rfl (aH rfl)
     ·rintro n_66 _ sl_ H_ hp_ hq_
      refine aK _ hp_ hq_ (aa (dQ (bu hD_6 hn_7) wz rfl (ae (vI ((k_3 + 1:Nat):Int)) wz rfl (ai ?_))))
      obtain rfl:=ah hc_12
      exact aR (k_3 + 1,l_4,(v_64,s_22),n_66) ⟨hL_13,aN hD_6⟩ (Nat.lt_succ_self _) rfl (aH rfl)
 ·rintro ⟨s_8,n_11⟩ ho_ sl_ H_ hp_ hq_
  subst ho_
  refine aK _ hp_ hq_ (af (aa (ae (gV n_11 2 s_8.1) wz rfl (ae (gV n_11 2 s_8.1) wz rfl (ai (gU 0 rfl (dX 4 0 rfl rfl (dX 5 0 rfl rfl (dX 87 0 rfl rfl ?_)))))))))
  obtain rfl:=ah hF
  exact ay (aM (.inr rfl) [(vL Run.enc s_8.1)] ⟨rfl,trivial⟩ rfl rfl rfl)
theorem lM {s1_1:(List Run)} {s2_2:(List Run)} {r:Bool} (hF:aZ s1_1 s2_2=some r) :
  FnM Tryz.prog 148 [(vL Run.enc s1_1),(vL Run.enc s2_2)] [] (vB r) []:=by
 refine FnM.of_wH ⟨Tryz.prog,26,[],[]⟩ rfl Tryz.func148 rfl rfl (Nat.le_of_ble_eq_true rfl) (by kernel_rfl) ?_
 unfold aZ at hF
 refine af (aa (ae (vB false) wz rfl (ai (af (af (aa (ae (vL Run.enc s1_1) wz rfl (bP xE rfl wz (ae (vL Run.enc s2_2) wz rfl (bP xE rfl wz (ae (vB ((s1_1.length:Int) != (s2_2.length:Int))) wz rfl (ai ?_))))))))))))
 rcases ak hF with⟨hc_3,hF⟩ | ⟨hc_3,hF⟩
 ·refine aB rfl hc_3 (af (aa (ae (vB false) wz rfl (ai ?_))))
  obtain rfl:=ah hF
  exact ay (aM (.inr rfl) [(vB false)] ⟨rfl,trivial⟩ rfl rfl rfl)
 ·refine aA rfl hc_3 (av (af (af (aa (ae (vL Run.enc s1_1) wz rfl (bP xE rfl wz (ae (vI 0) wz rfl (ai ?_))))))))
  obtain ⟨o_12,hj_13,hF⟩:=bind_some hF
  obtain ⟨hn_8,hj_13⟩:=aQ hj_13
  refine aG (β:=(Unit)) (fun (s_9:Unit)=>([]:List (Nat×V))) (fun (s_9:Unit)=>([]:Hp)) (fun p=>o_12 = .go p) ?_ ?_
  ·refine aF (aW (β:=Nat×(List Run)×(Unit)) (fun p=>(fun (k_4:Nat) (l_5:List Run) (s_9:Unit)=>([(0,(vL Run.enc s1_1)),(1,(vL Run.enc s2_2)),(12,(vI (s1_1.length:Int))),(13,(vI (k_4:Int)))]:List (Nat×V))) p.1 p.2.1 p.2.2) (fun p=>(fun (k_4:Nat) (l_5:List Run) (s_9:Unit)=>([]:Hp)) p.1 p.2.1 p.2.2) (fun p=>forR (fun k x s=>bD s2_2 k x s) p.2.1 p.1 p.2.2=some o_12∧(s1_1).drop p.1=p.2.1) (fun p=>p.2.1.length) (0,s1_1,()) ⟨hj_13,rfl⟩ rfl (aH rfl) ?_)
   rintro ⟨k_4,l_5,s_9⟩ ⟨hL_11,hD_7⟩
   dsimp only at hL_11 hD_7
   cases l_5 with
   | nil =>
    obtain rfl:=ah hL_11
    refine af (aa (ae (vB (decide ((k_4:Int) < (s1_1.length:Int)))) wz rfl (ai ?_)))
    refine af (aA rfl (drop_nil hD_7) (aS ?_))
    exact aP (s_9) rfl rfl (aH rfl)
   | cons x_6 l_5 =>
    obtain ⟨c_,hc_10,hL_11⟩:=bind_some hL_11
    refine af (aa (ae (vB (decide ((k_4:Int) < (s1_1.length:Int)))) wz rfl (ai ?_)))
    refine af (aB rfl (aX hD_7) (av ?_))
    unfold bD at hc_10
    refine af (aF (af (aa (ae (vI (k_4:Int)) wz rfl (ae (vI (k_4:Int)) wz rfl (ai (af (bB (ae (vL Run.enc s1_1) wz rfl (ae (vI (k_4:Int)) wz rfl (dL lg rfl rfl (bC hD_7) rfl wz (bJ mX vX rfl (.d (.agg (Run.enc x_6))) rfl wz (ae (vL Run.enc s2_2) wz rfl (ae (vI (k_4:Int)) wz rfl ?_))))))))))))))
    obtain ⟨y_14,hy_15,hc_10⟩:=bind_some hc_10
    refine dL lg rfl rfl hy_15 rfl wz (bJ mX vX rfl (.d (.agg (Run.enc y_14))) rfl wz (ae (vB (!((x_6.f_from == y_14.f_from) && ((x_6.f_to == y_14.f_to) && true)))) wz (by kernel_rfl) (ai ?_)))
    rcases ak hc_10 with⟨hc_16,hc_10⟩ | ⟨hc_16,hc_10⟩
    ·refine aB rfl hc_16 (af (aa (ae (vB false) wz rfl (ai ?_))))
     obtain rfl:=ah hc_10
     obtain rfl:=ah hL_11
     obtain rfl:=ah hF
     exact ay (aM (.inr rfl) [(vB false)] ⟨rfl,trivial⟩ rfl rfl rfl)
    ·refine aA rfl hc_16 (av (aa (dQ (bu hD_7 hn_8) wz rfl (ae (vI ((k_4 + 1:Nat):Int)) wz rfl (ai ?_)))))
     obtain rfl:=ah hc_10
     exact aR (k_4 + 1,l_5,()) ⟨hL_11,aN hD_7⟩ (Nat.lt_succ_self _) rfl (aH rfl)
  ·rintro s_9 ho_ sl_ H_ hp_ hq_
   subst ho_
   refine aK _ hp_ hq_ (af (aa (ae (vB true) wz rfl (ai ?_))))
   obtain rfl:=ah hF
   exact ay (aM (.inr rfl) [(vB true)] ⟨rfl,trivial⟩ rfl rfl rfl)
theorem ou {l_1:(List Rect)} {m_2:(List Rect)} {r:(List Rect)} (hF:dw l_1 m_2=some r) :
  FnM Tryz.prog 69 [(vL Rect.enc l_1),(vL Rect.enc m_2)] [] (vL Rect.enc r) []:=by
 refine FnM.of_wH ⟨Tryz.prog,88,[],[]⟩ rfl Tryz.func69 rfl rfl (Nat.le_of_ble_eq_true rfl) (by kernel_rfl) ?_
 unfold dw at hF
 refine af (aa (ae .nil wz rfl (ai (af (aa (ae .nil wz rfl (ai (af (af (aa (ae (vL Rect.enc l_1) wz rfl (ae (vL Rect.enc m_2) wz rfl (fH (([l_1,m_2]:List (List Rect)).map (eL Rect.enc)) M7 ez260 rfl rfl rfl rfl rfl wz ?_)))))))))))))
 obtain ⟨r_3,hr_4,hF⟩:=bind_some hF
 refine aC (mI hr_4) rfl hb145 rfl rfl rfl rfl wz (bP zw rfl wz (ae (vI 0) wz rfl (ai (l5 (fun n_11 => ?_)))))
 obtain ⟨o_16,hj_17,hF⟩:=bind_some hF
 obtain ⟨hn_9,hj_17⟩:=aQ hj_17
 refine aG (β:=((List Int))×Nm) (fun p=>(fun (s_10:(List Int)) (n_13:Nm)=>([(0,(vL Rect.enc l_1)),(1,(vL Rect.enc m_2)),(5,(gV n_13 1 s_10))]:List (Nat×V))) p.1 p.2) (fun p=>(fun (s_10:(List Int)) (n_13:Nm)=>([(n_13,gB 1 eI s_10)]:Hp)) p.1 p.2) (fun p=>o_16 = .go p.1) ?_ ?_
 ·refine aF (aW (β:=Nat×(List Rect)×((List Int))×Nm) (fun p=>(fun (k_5:Nat) (l_6:List Rect) (s_10:(List Int)) (n_13:Nm)=>([(0,(vL Rect.enc l_1)),(1,(vL Rect.enc m_2)),(5,(gV n_13 1 s_10)),(19,(vL Rect.enc r_3)),(20,(vI (r_3.length:Int))),(21,(vI (k_5:Int)))]:List (Nat×V))) p.1 p.2.1 p.2.2.1 p.2.2.2) (fun p=>(fun (k_5:Nat) (l_6:List Rect) (s_10:(List Int)) (n_13:Nm)=>([(n_13,gB 1 eI s_10)]:Hp)) p.1 p.2.1 p.2.2.1 p.2.2.2) (fun p=>forR (fun k x s=>fE k x s) p.2.1 p.1 p.2.2.1=some o_16∧(r_3).drop p.1=p.2.1) (fun p=>p.2.1.length) (0,r_3,([]:List Int),n_11) ⟨hj_17,rfl⟩ rfl (aH rfl) ?_)
  rintro ⟨k_5,l_6,s_10,n_13⟩ ⟨hL_15,hD_8⟩
  dsimp only at hL_15 hD_8
  cases l_6 with
  | nil =>
   obtain rfl:=ah hL_15
   refine af (aa (ae (vB (decide ((k_5:Int) < (r_3.length:Int)))) wz rfl (ai ?_)))
   refine af (aA rfl (drop_nil hD_8) (aS ?_))
   exact aP (s_10,n_13) rfl rfl (aH rfl)
  | cons x_7 l_6 =>
   obtain ⟨c_,hc_14,hL_15⟩:=bind_some hL_15
   refine af (aa (ae (vB (decide ((k_5:Int) < (r_3.length:Int)))) wz rfl (ai ?_)))
   refine af (aB rfl (aX hD_8) (av ?_))
   unfold fE at hc_14
   refine af (aF (af (aa (dL zu rfl rfl (bC hD_8) rfl wz (bJ dx gm rfl (.d (.agg (Rect.enc x_7))) rfl wz (aY 0 (.inl rfl) z45 rfl wz (fun n_18=>bL 0 il ft 1 dx rfl rfl [(vI x_7.X),(vI x_7.Y),(vI x_7.W),(vI x_7.H)] rfl wz (ai (aa (ae (gV n_13 1 s_10) wz rfl (ax fV rfl 1 rfl wz (au 0 1 il ft sz3 ag3 rfl rfl (vI x_7.Y) rfl wz (ax fV rfl 1 rfl wz (au 0 1 il ft sz3 ag3 rfl rfl (vI x_7.Y) rfl wz (ax kw rfl 3 rfl wz (au 0 1 il ft sz3 ag3 rfl rfl (vI x_7.H) rfl wz (ae (vI (w64 (x_7.Y + x_7.H))) wz rfl (fH (([x_7.Y,(w64 (x_7.Y + x_7.H))]:List Int).map eI) oo Ce rfl rfl rfl rfl rfl wz ?_))))))))))))))))))
   obtain ⟨a_19,hz_20,hc_14⟩:=bind_some hc_14
   refine kN 0 il ft (i:=0) el22 el22 sz3 z3 rfl (by decide) by3 (by decide) (fun _=>rfl) rfl rfl rfl hz_20 wz (fun n_21=>ae (gV n_21 1 a_19) wz rfl (ai (aa (dQ (bu hD_8 hn_9) wz rfl (ae (vI ((k_5 + 1:Nat):Int)) wz rfl (ai ?_))))))
   obtain rfl:=ah hc_14
   exact aR (k_5 + 1,l_6,a_19,n_21) ⟨hL_15,aN hD_8⟩ (Nat.lt_succ_self _) rfl (aH rfl)
 ·rintro ⟨s_10,n_13⟩ ho_ sl_ H_ hp_ hq_
  subst ho_
  refine aK _ hp_ hq_ (af (aa (ae (gV n_13 1 s_10) wz rfl ?_)))
  obtain ⟨r_22,hr_23,hF⟩:=bind_some hF
  obtain ⟨_,hs_24,hF⟩:=bind_some hF
  replace hs_24:=zt hs_24
  refine y7 0 [] 0 0 il ft (rG hr_23) rfl hb90 rfl rfl rfl (by kernel_rfl) rfl (.inl rfl) rfl (by kernel_rfl) (by kernel_rfl) (by kernel_rfl) (by kernel_rfl) rfl (by decide) (by kernel_rfl) A8 (KW hs_24) wz ([(n_13,gB 1 eI r_22)]:Hp) (by kernel_rfl) (lK (v':=(gV n_13 1 r_22)) 36 rfl (si hs_24.symm) (lK (v':=(gV n_13 1 r_22)) 5 rfl (si hs_24.symm) (ai (af (aa (ae (gV n_13 1 r_22) wz rfl ?_))))))
  obtain ⟨r_25,hr_26,hF⟩:=bind_some hF
  refine y7 0 [] 0 0 il ft (pO hr_26) rfl hb91 rfl rfl rfl (by kernel_rfl) rfl (.inl rfl) rfl (by kernel_rfl) (by kernel_rfl) (by kernel_rfl) (by kernel_rfl) rfl (by decide) (by kernel_rfl) BG (fun _=>rfl) wz ([(n_13,none)]:Hp) (by kernel_rfl) (ae (vL eI r_25) wz rfl (ai (af (aa (ae .nil wz rfl (ai (af (aa (ae .nil wz rfl (ai (af (aa (ae (vI 0) wz rfl (ai (af (af (aa (ae (vL eI r_25) wz rfl (bP vE rfl wz (ae (vI 0) wz rfl (ai (Kc Run.enc 9 rfl (l5 (fun n_33 => ?_))))))))))))))))))))))))
  obtain ⟨o_38,hj_39,hF⟩:=bind_some hF
  obtain ⟨hn_31,hj_39⟩:=aQ hj_39
  refine aG (β:=((List Rect)×(List Run)×Int)×Nm) (fun p=>(fun (s_32:(List Rect)×(List Run)×Int) (n_35:Nm)=>([(8,(gV n_35 4 s_32.1))]:List (Nat×V))) p.1 p.2) (fun p=>(fun (s_32:(List Rect)×(List Run)×Int) (n_35:Nm)=>([(n_13,none),(n_35,gB 4 Rect.enc s_32.1)]:Hp)) p.1 p.2) (fun p=>o_38 = .go p.1) ?_ ?_
  ·refine aF (aW (β:=Nat×(List Int)×((List Rect)×(List Run)×Int)×Nm) (fun p=>(fun (k_27:Nat) (l_28:List Int) (s_32:(List Rect)×(List Run)×Int) (n_35:Nm)=>([(0,(vL Rect.enc l_1)),(1,(vL Rect.enc m_2)),(5,(vL eI r_25)),(8,(gV n_35 4 s_32.1)),(9,(vL Run.enc s_32.2.1)),(10,(vI s_32.2.2)),(40,(vL eI r_25)),(41,(vI (r_25.length:Int))),(42,(vI (k_27:Int)))]:List (Nat×V))) p.1 p.2.1 p.2.2.1 p.2.2.2) (fun p=>(fun (k_27:Nat) (l_28:List Int) (s_32:(List Rect)×(List Run)×Int) (n_35:Nm)=>([(n_13,none),(n_35,gB 4 Rect.enc s_32.1)]:Hp)) p.1 p.2.1 p.2.2.1 p.2.2.2) (fun p=>forR (fun k x s=>dz r_25 l_1 m_2 k x s) p.2.1 p.1 p.2.2.1=some o_38∧(r_25).drop p.1=p.2.1) (fun p=>p.2.1.length) (0,r_25,(([]:List Rect),([]:List Run),0),n_33) ⟨hj_39,rfl⟩ rfl (aH rfl) ?_)
   rintro ⟨k_27,l_28,s_32,n_35⟩ ⟨hL_37,hD_30⟩
   dsimp only at hL_37 hD_30
   cases l_28 with
   | nil =>
    obtain rfl:=ah hL_37
    refine af (aa (ae (vB (decide ((k_27:Int) < (r_25.length:Int)))) wz rfl (ai ?_)))
    refine af (aA rfl (drop_nil hD_30) (aS ?_))
    exact aP (s_32,n_35) rfl rfl (aH rfl)
   | cons x_29 l_28 =>
    obtain ⟨c_,hc_36,hL_37⟩:=bind_some hL_37
    refine af (aa (ae (vB (decide ((k_27:Int) < (r_25.length:Int)))) wz rfl (ai ?_)))
    refine af (aB rfl (aX hD_30) (av ?_))
    unfold dz at hc_36
    refine af (aF (af (aa (ae (vI (k_27:Int)) wz rfl (dL oo rfl rfl (bC hD_30) rfl wz (bJ sz3 ag3 rfl (vI x_29) rfl wz (ae (vI (k_27:Int)) wz rfl (ae (vI x_29) wz rfl (ai (af (aa (ae .nil wz rfl (ai (af (af (aa (ae (vI (k_27:Int)) wz rfl (ae (vI (w64 ((k_27:Int) + 1))) wz rfl (ae (vL eI r_25) wz rfl (bP vE rfl wz (ae (vB (decide ((w64 ((k_27:Int) + 1)) < (r_25.length:Int)))) wz rfl (ai (Kc Run.enc 13 rfl ?_)))))))))))))))))))))))
    obtain ⟨v_42,h_43,hc_36⟩:=bind_some hc_36
    refine aG (β:=Unit) (fun _=>([(0,(vL Rect.enc l_1)),(1,(vL Rect.enc m_2)),(5,(vL eI r_25)),(8,(gV n_35 4 s_32.1)),(9,(vL Run.enc s_32.2.1)),(10,(vI s_32.2.2)),(12,(vI x_29)),(13,(vL Run.enc v_42)),(40,(vL eI r_25)),(41,(vI (r_25.length:Int))),(42,(vI (k_27:Int)))]:List (Nat×V))) (fun _=>([(n_13,none),(n_35,gB 4 Rect.enc s_32.1)]:Hp)) (fun _=>True) ?_ ?_
    ·rcases ak h_43 with⟨hc_44,h_43⟩ | ⟨hc_44,h_43⟩
     ·refine aB rfl hc_44 (aa (ae (vL Rect.enc l_1) wz rfl (ae (vI x_29) wz rfl ?_)))
      obtain ⟨r_45,hr_46,h_43⟩:=bind_some h_43
      refine aC (vW hr_46) rfl hb147 rfl rfl rfl rfl wz (ae (vL Rect.enc m_2) wz rfl (ae (vI x_29) wz rfl ?_))
      obtain ⟨r_47,hr_48,h_43⟩:=bind_some h_43
      refine aC (vW hr_48) rfl hb147 rfl rfl rfl rfl wz ?_
      obtain ⟨r_49,hr_50,h_43⟩:=bind_some h_43
      refine aC (Eg hr_50) rfl hb146 rfl rfl rfl rfl wz (ae (vL Run.enc r_49) wz rfl (ai ?_))
      obtain rfl:=ah h_43
      exact cu
     ·refine aA rfl hc_44 (av ?_)
      obtain rfl:=ah h_43
      exact cu
    ·rintro ⟨⟩ _ sl_ H_ hp_ hq_
     refine aK _ hp_ hq_ (af (af (aa (ae (vL Run.enc s_32.2.1) wz rfl (ae (vL Run.enc v_42) wz rfl ?_)))))
     obtain ⟨r_51,hr_52,hc_36⟩:=bind_some hc_36
     refine aC (lM hr_52) rfl hb148 rfl rfl rfl rfl wz (ai ?_)
     rcases ak hc_36 with⟨hc_53,hc_36⟩ | ⟨hc_53,hc_36⟩
     ·refine aB rfl hc_53 (aS (aa (dQ (bu hD_30 hn_31) wz rfl (ae (vI ((k_27 + 1:Nat):Int)) wz rfl (ai ?_)))))
      obtain rfl:=ah hc_36
      exact aR (k_27 + 1,l_28,(s_32.1,s_32.2.1,s_32.2.2),n_35) ⟨hL_37,aN hD_30⟩ (Nat.lt_succ_self _) rfl (aH rfl)
     ·refine aA rfl hc_53 (av (af (af (aa (ae (vL Run.enc s_32.2.1) wz rfl (bP xE rfl wz (ae (vI 0) wz rfl (ai ?_))))))))
      obtain ⟨o_64,hj_65,hc_36⟩:=bind_some hc_36
      obtain ⟨hn_58,hj_65⟩:=aQ hj_65
      refine aG (β:=((List Rect))×Nm) (fun p=>(fun (s_59:(List Rect)) (n_61:Nm)=>([(0,(vL Rect.enc l_1)),(1,(vL Rect.enc m_2)),(5,(vL eI r_25)),(8,(gV n_61 4 s_59)),(12,(vI x_29)),(13,(vL Run.enc v_42)),(40,(vL eI r_25)),(41,(vI (r_25.length:Int))),(42,(vI (k_27:Int)))]:List (Nat×V))) p.1 p.2) (fun p=>(fun (s_59:(List Rect)) (n_61:Nm)=>([(n_13,none),(n_61,gB 4 Rect.enc s_59)]:Hp)) p.1 p.2) (fun p=>o_64 = .go p.1) ?_ ?_
      ·refine aF (aW (β:=Nat×(List Run)×((List Rect))×Nm) (fun p=>(fun (k_54:Nat) (l_55:List Run) (s_59:(List Rect)) (n_61:Nm)=>([(0,(vL Rect.enc l_1)),(1,(vL Rect.enc m_2)),(5,(vL eI r_25)),(8,(gV n_61 4 s_59)),(10,(vI s_32.2.2)),(12,(vI x_29)),(13,(vL Run.enc v_42)),(40,(vL eI r_25)),(41,(vI (r_25.length:Int))),(42,(vI (k_27:Int))),(62,(vL Run.enc s_32.2.1)),(63,(vI (s_32.2.1.length:Int))),(64,(vI (k_54:Int)))]:List (Nat×V))) p.1 p.2.1 p.2.2.1 p.2.2.2) (fun p=>(fun (k_54:Nat) (l_55:List Run) (s_59:(List Rect)) (n_61:Nm)=>([(n_13,none),(n_61,gB 4 Rect.enc s_59)]:Hp)) p.1 p.2.1 p.2.2.1 p.2.2.2) (fun p=>forR (fun k x s=>eP s_32 x_29 k x s) p.2.1 p.1 p.2.2.1=some o_64∧(s_32.2.1).drop p.1=p.2.1) (fun p=>p.2.1.length) (0,s_32.2.1,s_32.1,n_35) ⟨hj_65,rfl⟩ rfl (aH rfl) ?_)
       rintro ⟨k_54,l_55,s_59,n_61⟩ ⟨hL_63,hD_57⟩
       dsimp only at hL_63 hD_57
       cases l_55 with
       | nil =>
        obtain rfl:=ah hL_63
        refine af (aa (ae (vB (decide ((k_54:Int) < (s_32.2.1.length:Int)))) wz rfl (ai ?_)))
        refine af (aA rfl (drop_nil hD_57) (aS ?_))
        exact aP (s_59,n_61) rfl rfl (aH rfl)
       | cons x_56 l_55 =>
        obtain ⟨c_,hc_62,hL_63⟩:=bind_some hL_63
        refine af (aa (ae (vB (decide ((k_54:Int) < (s_32.2.1.length:Int)))) wz rfl (ai ?_)))
        refine af (aB rfl (aX hD_57) (av ?_))
        unfold eP at hc_62
        refine af (aF (af (aa (dL lg rfl rfl (bC hD_57) rfl wz (bJ mX vX rfl (.d (.agg (Run.enc x_56))) rfl wz (aY 0 (.inl rfl) JL rfl wz (fun n_66=>bL 0 il ft 2 mX rfl rfl [(vI x_56.f_from),(vI x_56.f_to)] rfl wz (ai (aa (ae (gV n_61 4 s_59) wz rfl (ax kQ rfl 0 rfl wz (au 0 2 il ft sz3 ag3 rfl rfl (vI x_56.f_from) rfl wz (ae (vI s_32.2.2) wz rfl (ax qy rfl 1 rfl wz (au 0 2 il ft sz3 ag3 rfl rfl (vI x_56.f_to) rfl wz (ax kQ rfl 0 rfl wz (au 0 2 il ft sz3 ag3 rfl rfl (vI x_56.f_from) rfl wz (ae (vI (w64 (x_56.f_to - x_56.f_from))) wz rfl (ae (vI x_29) wz rfl (ae (vI s_32.2.2) wz rfl (ae (vI (w64 (x_29 - s_32.2.2))) wz rfl (ae (.d (.agg (Rect.enc (⟨x_56.f_from,s_32.2.2,(w64 (x_56.f_to - x_56.f_from)),(w64 (x_29 - s_32.2.2))⟩:Rect)))) wz (by kernel_rfl) (fH (([(⟨x_56.f_from,s_32.2.2,(w64 (x_56.f_to - x_56.f_from)),(w64 (x_29 - s_32.2.2))⟩:Rect)]:List Rect).map Rect.enc) zu JM rfl rfl rfl rfl rfl wz ?_)))))))))))))))))))))))
        obtain ⟨a_67,hz_68,hc_62⟩:=bind_some hc_62
        refine kN 0 il ft (i:=1) AA AA dx z45 rfl (by decide) Ll (by decide) (fun _=>rfl) rfl rfl rfl hz_68 wz (fun n_69=>ae (gV n_69 4 a_67) wz rfl (ai (aa (dQ (bu hD_57 hn_58) wz rfl (ae (vI ((k_54 + 1:Nat):Int)) wz rfl (ai ?_))))))
        obtain rfl:=ah hc_62
        exact aR (k_54 + 1,l_55,a_67,n_69) ⟨hL_63,aN hD_57⟩ (Nat.lt_succ_self _) rfl (aH rfl)
      ·rintro ⟨s_59,n_61⟩ ho_ sl_ H_ hp_ hq_
       subst ho_
       refine aK _ hp_ hq_ (aa (ae (vL Run.enc v_42) wz rfl (ae (vI x_29) wz rfl (ae (vL Run.enc v_42) wz rfl (ae (vI x_29) wz rfl (ai (aa (dQ (bu hD_30 hn_31) wz rfl (ae (vI ((k_27 + 1:Nat):Int)) wz rfl (ai ?_))))))))))
       obtain rfl:=ah hc_36
       exact aR (k_27 + 1,l_28,(s_59,v_42,x_29),n_61) ⟨hL_37,aN hD_30⟩ (Nat.lt_succ_self _) rfl (aH rfl)
  ·rintro ⟨s_32,n_35⟩ ho_ sl_ H_ hp_ hq_
   subst ho_
   refine aK _ hp_ hq_ (af (aa (ae (gV n_35 4 s_32.1) wz rfl (ae (gV n_35 4 s_32.1) wz rfl (ai (gU 1 rfl (dX 4 1 rfl rfl (dX 8 1 rfl rfl (dX 87 1 rfl rfl ?_)))))))))
   obtain rfl:=ah hF
   exact ay (aM (.inr rfl) [(vL Rect.enc s_32.1)] ⟨rfl,trivial⟩ rfl rfl rfl)
theorem Ai {l_1:Layout} {k_2:Int} {r:(List Rect)} (hF:gM l_1 k_2=some r) :
  FnM Tryz.prog 149 [(.d (.agg (Layout.enc l_1))),(vI k_2)] [] (vL Rect.enc r) []:=by
 refine FnM.of_wH ⟨Tryz.prog,36,[],[]⟩ rfl Tryz.func149 rfl rfl (Nat.le_of_ble_eq_true rfl) (by kernel_rfl) ?_
 unfold gM at hF
 refine af (aa (dJ 0 (.inl rfl) [(vS l_1.Key),(vI l_1.W),(vI l_1.H),(vL Zone.enc l_1.Zones)] rfl rfl wz (fun n_3=>ae .nil wz rfl (ai (af (aa (ae .nil wz rfl (ai (af (af (aa (ax tY rfl 3 rfl wz (au 0 0 il ft G9 Ie rfl rfl (vL Zone.enc l_1.Zones) rfl wz (bP un30 rfl wz (ae (vI 0) wz rfl (ai (l5 (fun n_10 => ?_))))))))))))))))))
 obtain ⟨o_15,hj_16,hF⟩:=bind_some hF
 obtain ⟨hn_8,hj_16⟩:=aQ hj_16
 refine aG (β:=((List Rect))×Nm) (fun p=>(fun (s_9:(List Rect)) (n_12:Nm)=>([(1,(vI k_2)),(2,(.ref n_3 0 0)),(5,(gV n_12 4 s_9))]:List (Nat×V))) p.1 p.2) (fun p=>(fun (s_9:(List Rect)) (n_12:Nm)=>([(n_3,some (.cells 4 [(vS l_1.Key),(vI l_1.W),(vI l_1.H),(vL Zone.enc l_1.Zones)])),(n_12,gB 4 Rect.enc s_9)]:Hp)) p.1 p.2) (fun p=>o_15 = .go p.1) ?_ ?_
 ·refine aF (aW (β:=Nat×(List Zone)×((List Rect))×Nm) (fun p=>(fun (k_4:Nat) (l_5:List Zone) (s_9:(List Rect)) (n_12:Nm)=>([(1,(vI k_2)),(2,(.ref n_3 0 0)),(5,(gV n_12 4 s_9)),(9,(vL Zone.enc l_1.Zones)),(10,(vI (l_1.Zones.length:Int))),(11,(vI (k_4:Int)))]:List (Nat×V))) p.1 p.2.1 p.2.2.1 p.2.2.2) (fun p=>(fun (k_4:Nat) (l_5:List Zone) (s_9:(List Rect)) (n_12:Nm)=>([(n_3,some (.cells 4 [(vS l_1.Key),(vI l_1.W),(vI l_1.H),(vL Zone.enc l_1.Zones)])),(n_12,gB 4 Rect.enc s_9)]:Hp)) p.1 p.2.1 p.2.2.1 p.2.2.2) (fun p=>forR (fun k x s=>iH l_1 k_2 k x s) p.2.1 p.1 p.2.2.1=some o_15∧(l_1.Zones).drop p.1=p.2.1) (fun p=>p.2.1.length) (0,l_1.Zones,([]:List Rect),n_10) ⟨hj_16,rfl⟩ rfl (aH rfl) ?_)
  rintro ⟨k_4,l_5,s_9,n_12⟩ ⟨hL_14,hD_7⟩
  dsimp only at hL_14 hD_7
  cases l_5 with
  | nil =>
   obtain rfl:=ah hL_14
   refine af (aa (ae (vB (decide ((k_4:Int) < (l_1.Zones.length:Int)))) wz rfl (ai ?_)))
   refine af (aA rfl (drop_nil hD_7) (aS ?_))
   exact aP (s_9,n_12) rfl rfl (aH rfl)
  | cons x_6 l_5 =>
   obtain ⟨c_,hc_13,hL_14⟩:=bind_some hL_14
   refine af (aa (ae (vB (decide ((k_4:Int) < (l_1.Zones.length:Int)))) wz rfl (ai ?_)))
   refine af (aB rfl (aX hD_7) (av ?_))
   unfold iH at hc_13
   refine af (aF (af (aa (ae (vI (k_4:Int)) wz rfl (dL Ep rfl rfl (bC hD_7) rfl wz (bJ yH K4 rfl (.d (.agg (Zone.enc x_6))) rfl wz (aY 0 (.inl rfl) z131 rfl wz (fun n_17=>ae (vI (k_4:Int)) wz rfl (bL 0 il ft 2 yH rfl rfl [(vS x_6.Key),(vI x_6.On.X),(vI x_6.On.Y),(vI x_6.On.W),(vI x_6.On.H),(vI x_6.Order)] rfl wz (ai (af (aa (ax tY rfl 3 rfl wz (au 0 0 il ft G9 Ie rfl rfl (vL Zone.enc l_1.Zones) rfl wz (ae (vI (k_4:Int)) wz rfl (ae (vI k_2) wz rfl ?_))))))))))))))))
   obtain ⟨r_18,hr_19,hc_13⟩:=bind_some hc_13
   refine aC (zT hr_19) rfl hb196 rfl rfl rfl rfl wz (ai ?_)
   obtain ⟨v_20,h_21,hc_13⟩:=bind_some hc_13
   refine aG (β:=Nm) (fun (n_22:Nm)=>([(1,(vI k_2)),(2,(.ref n_3 0 0)),(5,(gV n_22 4 v_20)),(9,(vL Zone.enc l_1.Zones)),(10,(vI (l_1.Zones.length:Int))),(11,(vI (k_4:Int)))]:List (Nat×V))) (fun (n_22:Nm)=>([(n_3,some (.cells 4 [(vS l_1.Key),(vI l_1.W),(vI l_1.H),(vL Zone.enc l_1.Zones)])),(n_22,gB 4 Rect.enc v_20),(n_17,some (.cells 6 [(vS x_6.Key),(vI x_6.On.X),(vI x_6.On.Y),(vI x_6.On.W),(vI x_6.On.H),(vI x_6.Order)]))]:Hp)) (fun _=>True) ?_ ?_
   ·rcases ak h_21 with⟨hc_23,h_21⟩ | ⟨hc_23,h_21⟩
    ·refine aB rfl hc_23 (aa (ae (gV n_12 4 s_9) wz rfl (ax rR rfl 1 rfl wz (au 0 2 il ft dx gm rfl rfl (.d (.agg (Rect.enc x_6.On))) rfl wz (fH (([x_6.On]:List Rect).map Rect.enc) zu JM rfl rfl rfl rfl rfl wz ?_)))))
     obtain ⟨a_24,hz_25,h_21⟩:=bind_some h_21
     refine kN 0 il ft (i:=1) AA AA dx z45 rfl (by decide) Ll (by decide) (fun _=>rfl) rfl rfl rfl hz_25 wz (fun n_26=>ae (gV n_26 4 a_24) wz rfl (ai ?_))
     obtain rfl:=ah h_21
     exact aP n_26 trivial rfl (aH rfl)
    ·refine aA rfl hc_23 (av ?_)
     obtain rfl:=ah h_21
     exact aP n_12 trivial rfl (aH rfl)
   ·rintro n_22 _ sl_ H_ hp_ hq_
    refine aK _ hp_ hq_ (aa (dQ (bu hD_7 hn_8) wz rfl (ae (vI ((k_4 + 1:Nat):Int)) wz rfl (ai ?_))))
    obtain rfl:=ah hc_13
    exact aR (k_4 + 1,l_5,v_20,n_22) ⟨hL_14,aN hD_7⟩ (Nat.lt_succ_self _) rfl (aH rfl)
 ·rintro ⟨s_9,n_12⟩ ho_ sl_ H_ hp_ hq_
  subst ho_
  refine aK _ hp_ hq_ (af (gU 1 rfl (dX 5 1 rfl rfl (aa (ax tY rfl 3 rfl wz (au 0 0 il ft G9 Ie rfl rfl (vL Zone.enc l_1.Zones) rfl wz (ae (vI k_2) wz rfl ?_)))))))
  obtain ⟨y_27,hy_28,hF⟩:=bind_some hF
  refine dL Ep rfl rfl hy_28 rfl wz (lW rR rfl [.int .i64 y_27.On.X,.int .i64 y_27.On.Y,.int .i64 y_27.On.W,.int .i64 y_27.On.H,.int .i64 y_27.Order] rfl rfl wz (bJ dx gm rfl (.d (.agg (Rect.enc y_27.On))) rfl wz (fH (([y_27.On]:List Rect).map Rect.enc) zu JM rfl rfl rfl rfl rfl wz (ae (vL Rect.enc s_9) wz rfl ?_))))
  obtain ⟨r_29,hr_30,hF⟩:=bind_some hF
  refine aC (ou hr_30) rfl hb69 rfl rfl rfl rfl wz (ae (vL Rect.enc r_29) wz rfl (ai ?_))
  obtain rfl:=ah hF
  exact ay (aM (.inr rfl) [(vL Rect.enc r_29)] ⟨rfl,trivial⟩ rfl rfl rfl)
theorem wE {l_1:Layout} {r:(List Piece)×Int} (hF:ll l_1=some r) :
  FnM Tryz.prog 72 [(.d (.agg (Layout.enc l_1)))] [] (.tup [(vL Piece.enc r.1),(vI r.2)]) []:=by
 refine FnM.of_wH ⟨Tryz.prog,38,[],[]⟩ rfl Tryz.func72 rfl rfl (Nat.le_of_ble_eq_true rfl) (by kernel_rfl) ?_
 unfold ll at hF
 refine af (aa (dJ 0 (.inl rfl) [(vS l_1.Key),(vI l_1.W),(vI l_1.H),(vL Zone.enc l_1.Zones)] rfl rfl wz (fun n_2=>ae .nil wz rfl (ae (vI 0) wz rfl (ai (af (aa (ae .nil wz rfl (ai (af (af (aa (ax tY rfl 3 rfl wz (au 0 0 il ft G9 Ie rfl rfl (vL Zone.enc l_1.Zones) rfl wz (bP un30 rfl wz (ae (vI 0) wz rfl (ai (l5 (fun n_9 => ?_)))))))))))))))))))
 obtain ⟨o_14,hj_15,hF⟩:=bind_some hF
 obtain ⟨hn_7,hj_15⟩:=aQ hj_15
 refine aG (β:=((List Piece))×Nm) (fun p=>(fun (s_8:(List Piece)) (n_11:Nm)=>([(4,(gV n_11 5 s_8))]:List (Nat×V))) p.1 p.2) (fun p=>(fun (s_8:(List Piece)) (n_11:Nm)=>([(n_2,some (.cells 4 [(vS l_1.Key),(vI l_1.W),(vI l_1.H),(vL Zone.enc l_1.Zones)])),(n_11,gB 5 Piece.enc s_8)]:Hp)) p.1 p.2) (fun p=>o_14 = .go p.1) ?_ ?_
 ·refine aF (aW (β:=Nat×(List Zone)×((List Piece))×Nm) (fun p=>(fun (k_3:Nat) (l_4:List Zone) (s_8:(List Piece)) (n_11:Nm)=>([(1,(.ref n_2 0 0)),(4,(gV n_11 5 s_8)),(10,(vL Zone.enc l_1.Zones)),(11,(vI (l_1.Zones.length:Int))),(12,(vI (k_3:Int)))]:List (Nat×V))) p.1 p.2.1 p.2.2.1 p.2.2.2) (fun p=>(fun (k_3:Nat) (l_4:List Zone) (s_8:(List Piece)) (n_11:Nm)=>([(n_2,some (.cells 4 [(vS l_1.Key),(vI l_1.W),(vI l_1.H),(vL Zone.enc l_1.Zones)])),(n_11,gB 5 Piece.enc s_8)]:Hp)) p.1 p.2.1 p.2.2.1 p.2.2.2) (fun p=>forR (fun k x s=>jW l_1 k x s) p.2.1 p.1 p.2.2.1=some o_14∧(l_1.Zones).drop p.1=p.2.1) (fun p=>p.2.1.length) (0,l_1.Zones,([]:List Piece),n_9) ⟨hj_15,rfl⟩ rfl (aH rfl) ?_)
  rintro ⟨k_3,l_4,s_8,n_11⟩ ⟨hL_13,hD_6⟩
  dsimp only at hL_13 hD_6
  cases l_4 with
  | nil =>
   obtain rfl:=ah hL_13
   refine af (aa (ae (vB (decide ((k_3:Int) < (l_1.Zones.length:Int)))) wz rfl (ai ?_)))
   refine af (aA rfl (drop_nil hD_6) (aS ?_))
   exact aP (s_8,n_11) rfl rfl (aH rfl)
  | cons x_5 l_4 =>
   obtain ⟨c_,hc_12,hL_13⟩:=bind_some hL_13
   refine af (aa (ae (vB (decide ((k_3:Int) < (l_1.Zones.length:Int)))) wz rfl (ai ?_)))
   refine af (aB rfl (aX hD_6) (av ?_))
   unfold jW at hc_12
   refine af (aF (af (aa (ae (vI (k_3:Int)) wz rfl (dL Ep rfl rfl (bC hD_6) rfl wz (bJ yH K4 rfl (.d (.agg (Zone.enc x_5))) rfl wz (aY 0 (.inl rfl) z131 rfl wz (fun n_16=>ae (vI (k_3:Int)) wz rfl (bL 0 il ft 2 yH rfl rfl [(vS x_5.Key),(vI x_5.On.X),(vI x_5.On.Y),(vI x_5.On.W),(vI x_5.On.H),(vI x_5.Order)] rfl wz (ai (af (aa (au 0 0 il ft yg BF rfl rfl (.d (.agg (Layout.enc l_1))) rfl wz (ae (vI (k_3:Int)) wz rfl ?_))))))))))))))
   obtain ⟨r_17,hr_18,hc_12⟩:=bind_some hc_12
   refine aC (Ai hr_18) rfl hb149 rfl rfl rfl rfl wz (bP zw rfl wz (ae (vI 0) wz rfl (ai ?_)))
   obtain ⟨o_29,hj_30,hc_12⟩:=bind_some hc_12
   obtain ⟨hn_23,hj_30⟩:=aQ hj_30
   refine aG (β:=((List Piece))×Nm) (fun p=>(fun (s_24:(List Piece)) (n_26:Nm)=>([(1,(.ref n_2 0 0)),(4,(gV n_26 5 s_24)),(10,(vL Zone.enc l_1.Zones)),(11,(vI (l_1.Zones.length:Int))),(12,(vI (k_3:Int)))]:List (Nat×V))) p.1 p.2) (fun p=>(fun (s_24:(List Piece)) (n_26:Nm)=>([(n_2,some (.cells 4 [(vS l_1.Key),(vI l_1.W),(vI l_1.H),(vL Zone.enc l_1.Zones)])),(n_26,gB 5 Piece.enc s_24),(n_16,some (.cells 6 [(vS x_5.Key),(vI x_5.On.X),(vI x_5.On.Y),(vI x_5.On.W),(vI x_5.On.H),(vI x_5.Order)]))]:Hp)) p.1 p.2) (fun p=>o_29 = .go p.1) ?_ ?_
   ·refine aF (aW (β:=Nat×(List Rect)×((List Piece))×Nm) (fun p=>(fun (k_19:Nat) (l_20:List Rect) (s_24:(List Piece)) (n_26:Nm)=>([(1,(.ref n_2 0 0)),(4,(gV n_26 5 s_24)),(6,(.ref n_16 0 0)),(10,(vL Zone.enc l_1.Zones)),(11,(vI (l_1.Zones.length:Int))),(12,(vI (k_3:Int))),(19,(vL Rect.enc r_17)),(20,(vI (r_17.length:Int))),(21,(vI (k_19:Int)))]:List (Nat×V))) p.1 p.2.1 p.2.2.1 p.2.2.2) (fun p=>(fun (k_19:Nat) (l_20:List Rect) (s_24:(List Piece)) (n_26:Nm)=>([(n_2,some (.cells 4 [(vS l_1.Key),(vI l_1.W),(vI l_1.H),(vL Zone.enc l_1.Zones)])),(n_26,gB 5 Piece.enc s_24),(n_16,some (.cells 6 [(vS x_5.Key),(vI x_5.On.X),(vI x_5.On.Y),(vI x_5.On.W),(vI x_5.On.H),(vI x_5.Order)]))]:Hp)) p.1 p.2.1 p.2.2.1 p.2.2.2) (fun p=>forR (fun k x s=>nN x_5 k x s) p.2.1 p.1 p.2.2.1=some o_29∧(r_17).drop p.1=p.2.1) (fun p=>p.2.1.length) (0,r_17,s_8,n_11) ⟨hj_30,rfl⟩ rfl (aH rfl) ?_)
    rintro ⟨k_19,l_20,s_24,n_26⟩ ⟨hL_28,hD_22⟩
    dsimp only at hL_28 hD_22
    cases l_20 with
    | nil =>
     obtain rfl:=ah hL_28
     refine af (aa (ae (vB (decide ((k_19:Int) < (r_17.length:Int)))) wz rfl (ai ?_)))
     refine af (aA rfl (drop_nil hD_22) (aS ?_))
     exact aP (s_24,n_26) rfl rfl (aH rfl)
    | cons x_21 l_20 =>
     obtain ⟨c_,hc_27,hL_28⟩:=bind_some hL_28
     refine af (aa (ae (vB (decide ((k_19:Int) < (r_17.length:Int)))) wz rfl (ai ?_)))
     refine af (aB rfl (aX hD_22) (av ?_))
     unfold nN at hc_27
     refine af (aF (af (aa (dL zu rfl rfl (bC hD_22) rfl wz (bJ dx gm rfl (.d (.agg (Rect.enc x_21))) rfl wz (aY 0 (.inl rfl) z45 rfl wz (fun n_31=>bL 0 il ft 3 dx rfl rfl [(vI x_21.X),(vI x_21.Y),(vI x_21.W),(vI x_21.H)] rfl wz (ai (aa (ae (gV n_26 5 s_24) wz rfl (ax BU rfl 0 rfl wz (au 0 2 il ft sz9 ag9 rfl rfl (vS x_5.Key) rfl wz (au 0 3 il ft dx gm rfl rfl (.d (.agg (Rect.enc x_21))) rfl wz (ae (.d (.agg (Piece.enc (⟨x_5.Key,x_21⟩:Piece)))) wz (by kernel_rfl) (fH (([(⟨x_5.Key,x_21⟩:Piece)]:List Piece).map Piece.enc) LC ez40 rfl rfl rfl rfl rfl wz ?_)))))))))))))))
     obtain ⟨a_32,hz_33,hc_27⟩:=bind_some hc_27
     refine kN 0 il ft (i:=1) el40 el40 Et z51 rfl (by decide) by51 (by decide) (fun _=>rfl) rfl rfl rfl hz_33 wz (fun n_34=>ae (gV n_34 5 a_32) wz rfl (ai (aa (dQ (bu hD_22 hn_23) wz rfl (ae (vI ((k_19 + 1:Nat):Int)) wz rfl (ai ?_))))))
     obtain rfl:=ah hc_27
     exact aR (k_19 + 1,l_20,a_32,n_34) ⟨hL_28,aN hD_22⟩ (Nat.lt_succ_self _) rfl (aH rfl)
   ·rintro ⟨s_24,n_26⟩ ho_ sl_ H_ hp_ hq_
    subst ho_
    refine aK _ hp_ hq_ (aa (dQ (bu hD_6 hn_7) wz rfl (ae (vI ((k_3 + 1:Nat):Int)) wz rfl (ai ?_))))
    obtain rfl:=ah hc_12
    exact aR (k_3 + 1,l_4,s_24,n_26) ⟨hL_13,aN hD_6⟩ (Nat.lt_succ_self _) rfl (aH rfl)
 ·rintro ⟨s_8,n_11⟩ ho_ sl_ H_ hp_ hq_
  subst ho_
  refine aK _ hp_ hq_ (af (af (aa (ae (gV n_11 5 s_8) wz rfl (Gl MU rfl wz (ae (vB (decide ((s_8.length:Int) > 2000))) wz rfl (ai ?_)))))))
  rcases ak hF with⟨hc_35,hF⟩ | ⟨hc_35,hF⟩
  ·refine aB rfl hc_35 (af (aa (ae .nil wz rfl (ae (vI 2) wz rfl (ai ?_)))))
   obtain rfl:=ah hF
   exact ay (aM (.inr rfl) [.nil,(vI 2)] ⟨rfl,⟨rfl,trivial⟩⟩ rfl rfl rfl)
  ·refine aA rfl hc_35 (av (af (aa (ae (gV n_11 5 s_8) wz rfl (ae (gV n_11 5 s_8) wz rfl (ae (vI 0) wz rfl (ai (gU 1 rfl (dX 2 1 rfl rfl (dX 4 1 rfl rfl (dX 34 1 rfl rfl (dX 37 1 rfl rfl ?_))))))))))))
   obtain rfl:=ah hF
   exact ay (aM (.inr rfl) [(vL Piece.enc s_8),(vI 0)] ⟨rfl,⟨rfl,trivial⟩⟩ rfl rfl rfl)
theorem uU {r_1:Rect} {wv_2:Int} {h_3:Int} {toW_4:Int} {toH_5:Int} {r:Rect} (hF:jl r_1 wv_2 h_3 toW_4 toH_5=some r) :
  FnM Tryz.prog 76 [(.d (.agg (Rect.enc r_1))),(vI wv_2),(vI h_3),(vI toW_4),(vI toH_5)] [] (.d (.agg (Rect.enc r))) []:=by
 refine FnM.of_wH ⟨Tryz.prog,61,[],[]⟩ rfl Tryz.func76 rfl rfl (Nat.le_of_ble_eq_true rfl) (by kernel_rfl) ?_
 unfold jl at hF
 refine af (aa (dJ 0 (.inl rfl) [(vI r_1.X),(vI r_1.Y),(vI r_1.W),(vI r_1.H)] rfl rfl wz (fun n_6=>aY 0 (.inl rfl) z45 rfl wz (fun n_7=>ai (af (bB (ax gQ rfl 0 rfl wz (au 1 0 (.inr (by kernel_rfl)) (fun _ _ ag=>trivial) sz3 ag3 rfl rfl (vI r_1.X) rfl wz (ae (vI toW_4) wz rfl (ae (vI (w64 (r_1.X * toW_4))) wz rfl (ae (vI wv_2) wz rfl ?_)))))))))))
 obtain ⟨q_8,hz_9,hF⟩:=bind_some hF
 refine Cc rfl rfl hz_9 wz (ax fV rfl 1 rfl wz (au 7 0 (.inr (by kernel_rfl)) (fun _ _ ag=>⟨.inl ⟨rfl,rfl⟩,trivial⟩) sz3 ag3 rfl rfl (vI r_1.Y) rfl wz (ae (vI toH_5) wz rfl (ae (vI (w64 (r_1.Y * toH_5))) wz rfl (ae (vI h_3) wz rfl ?_)))))
 obtain ⟨q_10,hz_11,hF⟩:=bind_some hF
 refine Cc rfl rfl hz_11 wz (ae (vI q_8) wz rfl (ae (vI q_10) wz rfl (ai (af (bB (ae (vI q_8) wz rfl (ae (vI q_10) wz rfl (ax gQ rfl 0 rfl wz (au 3 0 (.inr (by kernel_rfl)) (fun _ _ ag=>trivial) sz3 ag3 rfl rfl (vI r_1.X) rfl wz (ax ku rfl 2 rfl wz (au 5 0 (.inr (by kernel_rfl)) (fun _ _ ag=>⟨.inl ⟨rfl,rfl⟩,trivial⟩) sz3 ag3 rfl rfl (vI r_1.W) rfl wz (ae (vI (w64 (r_1.X + r_1.W))) wz rfl (ae (vI toW_4) wz rfl (ae (vI (w64 ((w64 (r_1.X + r_1.W)) * toW_4))) wz rfl (ae (vI wv_2) wz rfl ?_)))))))))))))))
 obtain ⟨q_12,hz_13,hF⟩:=bind_some hF
 refine Cc rfl rfl hz_13 wz (ae (vI q_8) wz rfl (ae (vI (w64 (q_12 - q_8))) wz rfl (ax fV rfl 1 rfl wz (au 14 0 (.inr (by kernel_rfl)) (fun _ _ ag=>⟨.inl ⟨rfl,rfl⟩,⟨.inl ⟨rfl,rfl⟩,trivial⟩⟩) sz3 ag3 rfl rfl (vI r_1.Y) rfl wz (ax kw rfl 3 rfl wz (au 16 0 (.inr (by kernel_rfl)) (fun _ _ ag=>⟨.inl ⟨rfl,rfl⟩,⟨.inl ⟨rfl,rfl⟩,⟨.inl ⟨rfl,rfl⟩,trivial⟩⟩⟩) sz3 ag3 rfl rfl (vI r_1.H) rfl wz (ae (vI (w64 (r_1.Y + r_1.H))) wz rfl (ae (vI toH_5) wz rfl (ae (vI (w64 ((w64 (r_1.Y + r_1.H)) * toH_5))) wz rfl (ae (vI h_3) wz rfl ?_))))))))))
 obtain ⟨q_14,hz_15,hF⟩:=bind_some hF
 refine Cc rfl rfl hz_15 wz (ae (vI q_10) wz rfl (ae (vI (w64 (q_14 - q_10))) wz rfl (ae (.d (.agg (Rect.enc (⟨q_8,q_10,(w64 (q_12 - q_8)),(w64 (q_14 - q_10))⟩:Rect)))) wz (by kernel_rfl) (aY 25 (.inr (by kernel_rfl)) z45 rfl wz (fun n_16=>bL 26 (.inr (by kernel_rfl)) (fun _ _ ag=>⟨.inr (.inr (by kernel_rfl)),⟨.inr (.inr (by kernel_rfl)),⟨.inr (.inr (by kernel_rfl)),⟨.inr (.inr (by kernel_rfl)),⟨.inr (.inr (by kernel_rfl)),trivial⟩⟩⟩⟩⟩) 2 dx rfl rfl [(vI q_8),(vI q_10),(vI (w64 (q_12 - q_8))),(vI (w64 (q_14 - q_10)))] rfl wz (ai (aK (H0:=([(n_6,some (.cells 4 [(vI r_1.X),(vI r_1.Y),(vI r_1.W),(vI r_1.H)])),(n_7,some (.cells 4 [(vI 0),(vI 0),(vI 0),(vI 0)])),(n_16,some (.cells 4 [(vI q_8),(vI q_10),(vI (w64 (q_12 - q_8))),(vI (w64 (q_14 - q_10)))]))]:Hp)) ([(10,(.ref n_7 0 0)),(13,(.ref n_16 0 0))]:List (Nat×V)) (by kernel_rfl) (mM (by kernel_rfl)) (af (af ?_)))))))))
 obtain ⟨v_17,h_18,hF⟩:=bind_some hF
 refine aG (β:=Unit) (fun _=>([(10,(.ref n_7 0 0)),(13,(.ref n_16 0 0)),(58,(vB v_17))]:List (Nat×V))) (fun _=>([(n_6,some (.cells 4 [(vI r_1.X),(vI r_1.Y),(vI r_1.W),(vI r_1.H)])),(n_7,some (.cells 4 [(vI 0),(vI 0),(vI 0),(vI 0)])),(n_16,some (.cells 4 [(vI q_8),(vI q_10),(vI (w64 (q_12 - q_8))),(vI (w64 (q_14 - q_10)))]))]:Hp)) (fun _=>True) ?_ ?_
 ·refine aa (ax ku rfl 2 rfl wz (au 0 2 il ft sz3 ag3 rfl rfl (vI (w64 (q_12 - q_8))) rfl wz (ae (vB ((w64 (q_12 - q_8)) == 0)) wz rfl ?_)))
  rcases ak h_18 with⟨hc_19,h_18⟩ | ⟨hc_19,h_18⟩
  ·refine aD rfl hc_19 wz (aj wa (aj wa (aj wa (ae (vB true) wz rfl (ai ?_)))))
   obtain rfl:=ah h_18
   exact cu
  ·refine aD rfl hc_19 wz (ax kw rfl 3 rfl wa (au 0 2 il ft sz3 ag3 rfl rfl (vI (w64 (q_14 - q_10))) rfl wa (ae (vB ((w64 (q_14 - q_10)) == 0)) wa rfl (ae (vB ((w64 (q_14 - q_10)) == 0)) wz rfl (ai ?_)))))
   obtain rfl:=ah h_18
   exact cu
 ·rintro ⟨⟩ _ sl_ H_ hp_ hq_
  refine aK _ hp_ hq_ ?_
  rcases ak hF with⟨hc_20,hF⟩ | ⟨hc_20,hF⟩
  ·refine aB rfl hc_20 (af (aa (ae (.d (.agg (Rect.enc (⟨0,0,0,0⟩:Rect)))) wz (by kernel_rfl) (bL 0 il ft 1 dx rfl rfl [(vI 0),(vI 0),(vI 0),(vI 0)] rfl wz (ai ?_)))))
   obtain rfl:=ah hF
   exact ay (aM (.inr rfl) [(.d (.agg (Rect.enc (⟨0,0,0,0⟩:Rect))))] ⟨⟨1,_,_,_,_,_,_,_,rfl,rfl,dx,gm,rfl⟩,trivial⟩ rfl rfl rfl)
  ·refine aA rfl hc_20 (av (af (aa (au 0 2 il ft dx gm rfl rfl (.d (.agg (Rect.enc (⟨q_8,q_10,(w64 (q_12 - q_8)),(w64 (q_14 - q_10))⟩:Rect)))) rfl wz (bL 0 il ft 1 dx rfl rfl [(vI q_8),(vI q_10),(vI (w64 (q_12 - q_8))),(vI (w64 (q_14 - q_10)))] rfl wz (ai ?_))))))
   obtain rfl:=ah hF
   exact ay (aM (.inr rfl) [(.d (.agg (Rect.enc (⟨q_8,q_10,(w64 (q_12 - q_8)),(w64 (q_14 - q_10))⟩:Rect))))] ⟨⟨1,_,_,_,_,_,_,_,rfl,rfl,dx,gm,rfl⟩,trivial⟩ rfl rfl rfl)
theorem sZ {wv_1:Wall} {l_2:Layout} {r:(List Piece)×Int} (hF:kI wv_1 l_2=some r) :
  FnM Tryz.prog 65 [(.d (.agg (Wall.enc wv_1))),(.d (.agg (Layout.enc l_2)))] [] (.tup [(vL Piece.enc r.1),(vI r.2)]) []:=by
 refine FnM.of_wH ⟨Tryz.prog,61,[],[]⟩ rfl Tryz.func65 rfl rfl (Nat.le_of_ble_eq_true rfl) (by kernel_rfl) ?_
 unfold kI at hF
 refine af (aa (dJ 0 (.inl rfl) [(vS wv_1.Key),(vI wv_1.W),(vI wv_1.H),(vL Screen.enc wv_1.Screens)] rfl rfl wz (fun n_3=>dJ 0 (.inl rfl) [(vS l_2.Key),(vI l_2.W),(vI l_2.H),(vL Zone.enc l_2.Zones)] rfl rfl wz (fun n_4=>ae .nil wz rfl (ae (vI 0) wz rfl (ai (af (af (aa (au 0 0 il ft xk Cf rfl rfl (.d (.agg (Wall.enc wv_1))) rfl wz ?_))))))))))
 obtain ⟨r_5,hr_6,hF⟩:=bind_some hF
 refine aC (xc hr_6) rfl hb144 rfl rfl rfl rfl wz (ae (vI r_5) wz rfl (ai (af (aa (ae (vI r_5) wz rfl (ae (vB (r_5 != 0)) wz rfl (ai ?_)))))))
 rcases ak hF with⟨hc_7,hF⟩ | ⟨hc_7,hF⟩
 ·refine aB rfl hc_7 (af (aa (ae (vI r_5) wz rfl (ae .nil wz rfl (ae (vI r_5) wz rfl (ai ?_))))))
  obtain rfl:=ah hF
  exact ay (aM (.inr rfl) [.nil,(vI r_5)] ⟨rfl,⟨rfl,trivial⟩⟩ rfl rfl rfl)
 ·refine aA rfl hc_7 (av (af (af (aa (au 0 1 il ft yg BF rfl rfl (.d (.agg (Layout.enc l_2))) rfl wz ?_)))))
  obtain ⟨r_8,hr_9,hF⟩:=bind_some hF
  refine aC (nW hr_9) rfl hb71 rfl rfl rfl rfl wz (ae (vI r_8) wz rfl (ai (af (aa (ae (vI r_8) wz rfl (ae (vB (r_8 != 0)) wz rfl (ai ?_)))))))
  rcases ak hF with⟨hc_10,hF⟩ | ⟨hc_10,hF⟩
  ·refine aB rfl hc_10 (af (aa (ae (vI r_8) wz rfl (ae .nil wz rfl (ae (vI r_8) wz rfl (ai ?_))))))
   obtain rfl:=ah hF
   exact ay (aM (.inr rfl) [.nil,(vI r_8)] ⟨rfl,⟨rfl,trivial⟩⟩ rfl rfl rfl)
  ·refine aA rfl hc_10 (av (af (aa (au 0 1 il ft yg BF rfl rfl (.d (.agg (Layout.enc l_2))) rfl wz ?_))))
   obtain ⟨r_11,hr_12,hF⟩:=bind_some hF
   refine aC (wE hr_12) rfl hb72 rfl rfl rfl rfl wz (ae (.tup [(vL Piece.enc r_11.1),(vI r_11.2)]) wz rfl (ae (vL Piece.enc r_11.1) wz rfl (ae (vI r_11.2) wz rfl (ae (vL Piece.enc r_11.1) wz rfl (ae (vI r_11.2) wz rfl (ai (af (af (aa (ae (vI r_11.2) wz rfl (ae (vB (r_11.2 != 0)) wz rfl (ai ?_))))))))))))
   rcases ak hF with⟨hc_13,hF⟩ | ⟨hc_13,hF⟩
   ·refine aB rfl hc_13 (af (aa (ae (vI r_11.2) wz rfl (ae .nil wz rfl (ae (vI r_11.2) wz rfl (ai ?_))))))
    obtain rfl:=ah hF
    exact ay (aM (.inr rfl) [.nil,(vI r_11.2)] ⟨rfl,⟨rfl,trivial⟩⟩ rfl rfl rfl)
   ·refine aA rfl hc_13 (av (af (aa (ae .nil wz rfl (ai (af (af (aa (ae (vL Piece.enc r_11.1) wz rfl (bP MU rfl wz (ae (vI 0) wz rfl (ai (l5 (fun n_20 => ?_))))))))))))))
    obtain ⟨o_25,hj_26,hF⟩:=bind_some hF
    obtain ⟨hn_18,hj_26⟩:=aQ hj_26
    refine aG (β:=((List Piece))×Nm) (fun p=>(fun (s_19:(List Piece)) (n_22:Nm)=>([(10,(gV n_22 5 s_19))]:List (Nat×V))) p.1 p.2) (fun p=>(fun (s_19:(List Piece)) (n_22:Nm)=>([(n_3,some (.cells 4 [(vS wv_1.Key),(vI wv_1.W),(vI wv_1.H),(vL Screen.enc wv_1.Screens)])),(n_4,some (.cells 4 [(vS l_2.Key),(vI l_2.W),(vI l_2.H),(vL Zone.enc l_2.Zones)])),(n_22,gB 5 Piece.enc s_19)]:Hp)) p.1 p.2) (fun p=>o_25 = .go p.1) ?_ ?_
    ·refine aF (aW (β:=Nat×(List Piece)×((List Piece))×Nm) (fun p=>(fun (k_14:Nat) (l_15:List Piece) (s_19:(List Piece)) (n_22:Nm)=>([(2,(.ref n_3 0 0)),(3,(.ref n_4 0 0)),(10,(gV n_22 5 s_19)),(32,(vL Piece.enc r_11.1)),(33,(vI (r_11.1.length:Int))),(34,(vI (k_14:Int)))]:List (Nat×V))) p.1 p.2.1 p.2.2.1 p.2.2.2) (fun p=>(fun (k_14:Nat) (l_15:List Piece) (s_19:(List Piece)) (n_22:Nm)=>([(n_3,some (.cells 4 [(vS wv_1.Key),(vI wv_1.W),(vI wv_1.H),(vL Screen.enc wv_1.Screens)])),(n_4,some (.cells 4 [(vS l_2.Key),(vI l_2.W),(vI l_2.H),(vL Zone.enc l_2.Zones)])),(n_22,gB 5 Piece.enc s_19)]:Hp)) p.1 p.2.1 p.2.2.1 p.2.2.2) (fun p=>forR (fun k x s=>iJ l_2 wv_1 k x s) p.2.1 p.1 p.2.2.1=some o_25∧(r_11.1).drop p.1=p.2.1) (fun p=>p.2.1.length) (0,r_11.1,([]:List Piece),n_20) ⟨hj_26,rfl⟩ rfl (aH rfl) ?_)
     rintro ⟨k_14,l_15,s_19,n_22⟩ ⟨hL_24,hD_17⟩
     dsimp only at hL_24 hD_17
     cases l_15 with
     | nil =>
      obtain rfl:=ah hL_24
      refine af (aa (ae (vB (decide ((k_14:Int) < (r_11.1.length:Int)))) wz rfl (ai ?_)))
      refine af (aA rfl (drop_nil hD_17) (aS ?_))
      exact aP (s_19,n_22) rfl rfl (aH rfl)
     | cons x_16 l_15 =>
      obtain ⟨c_,hc_23,hL_24⟩:=bind_some hL_24
      refine af (aa (ae (vB (decide ((k_14:Int) < (r_11.1.length:Int)))) wz rfl (ai ?_)))
      refine af (aB rfl (aX hD_17) (av ?_))
      unfold iJ at hc_23
      refine af (aF (af (aa (dL LC rfl rfl (bC hD_17) rfl wz (bJ Et ag51 rfl (.d (.agg (Piece.enc x_16))) rfl wz (aY 0 (.inl rfl) z51 rfl wz (fun n_27=>bL 0 il ft 3 Et rfl rfl [(vS x_16.Zone),(vI x_16.On.X),(vI x_16.On.Y),(vI x_16.On.W),(vI x_16.On.H)] rfl wz (ai (af (aa (ax GI rfl 1 rfl wz (au 0 3 il ft dx gm rfl rfl (.d (.agg (Rect.enc x_16.On))) rfl wz (ax zU rfl 1 rfl wz (au 0 1 il ft sz3 ag3 rfl rfl (vI l_2.W) rfl wz (ax Av rfl 2 rfl wz (au 0 1 il ft sz3 ag3 rfl rfl (vI l_2.H) rfl wz (ax wo rfl 1 rfl wz (au 0 0 il ft sz3 ag3 rfl rfl (vI wv_1.W) rfl wz (ax wC rfl 2 rfl wz (au 0 0 il ft sz3 ag3 rfl rfl (vI wv_1.H) rfl wz ?_))))))))))))))))))))
      obtain ⟨r_28,hr_29,hc_23⟩:=bind_some hc_23
      refine aC (uU hr_29) rfl hb76 rfl rfl rfl rfl wz (aY 0 (.inl rfl) z45 rfl wz (fun n_30=>bL 0 il ft 4 dx rfl rfl [(vI r_28.X),(vI r_28.Y),(vI r_28.W),(vI r_28.H)] rfl wz (ai (af (aa (ax ku rfl 2 rfl wz (au 0 4 il ft sz3 ag3 rfl rfl (vI r_28.W) rfl wz (ae (vB (decide (r_28.W > 0))) wz rfl (ai ?_)))))))))
      obtain ⟨v_31,h_32,hc_23⟩:=bind_some hc_23
      refine aG (β:=Nm) (fun (n_33:Nm)=>([(2,(.ref n_3 0 0)),(3,(.ref n_4 0 0)),(10,(gV n_33 5 v_31)),(32,(vL Piece.enc r_11.1)),(33,(vI (r_11.1.length:Int))),(34,(vI (k_14:Int)))]:List (Nat×V))) (fun (n_33:Nm)=>([(n_3,some (.cells 4 [(vS wv_1.Key),(vI wv_1.W),(vI wv_1.H),(vL Screen.enc wv_1.Screens)])),(n_4,some (.cells 4 [(vS l_2.Key),(vI l_2.W),(vI l_2.H),(vL Zone.enc l_2.Zones)])),(n_33,gB 5 Piece.enc v_31),(n_27,some (.cells 5 [(vS x_16.Zone),(vI x_16.On.X),(vI x_16.On.Y),(vI x_16.On.W),(vI x_16.On.H)])),(n_30,some (.cells 4 [(vI r_28.X),(vI r_28.Y),(vI r_28.W),(vI r_28.H)]))]:Hp)) (fun _=>True) ?_ ?_
      ·rcases ak h_32 with⟨hc_34,h_32⟩ | ⟨hc_34,h_32⟩
       ·refine aB rfl hc_34 (aa (ae (gV n_22 5 s_19) wz rfl (ax Mv rfl 0 rfl wz (au 0 3 il ft sz9 ag9 rfl rfl (vS x_16.Zone) rfl wz (au 0 4 il ft dx gm rfl rfl (.d (.agg (Rect.enc r_28))) rfl wz (ae (.d (.agg (Piece.enc (⟨x_16.Zone,r_28⟩:Piece)))) wz (by kernel_rfl) (fH (([(⟨x_16.Zone,r_28⟩:Piece)]:List Piece).map Piece.enc) LC ez40 rfl rfl rfl rfl rfl wz ?_)))))))
        obtain ⟨a_35,hz_36,h_32⟩:=bind_some h_32
        refine kN 0 il ft (i:=2) el40 el40 Et z51 rfl (by decide) by51 (by decide) (fun _=>rfl) rfl rfl rfl hz_36 wz (fun n_37=>ae (gV n_37 5 a_35) wz rfl (ai ?_))
        obtain rfl:=ah h_32
        exact aP n_37 trivial rfl (aH rfl)
       ·refine aA rfl hc_34 (av ?_)
        obtain rfl:=ah h_32
        exact aP n_22 trivial rfl (aH rfl)
      ·rintro n_33 _ sl_ H_ hp_ hq_
       refine aK _ hp_ hq_ (aa (dQ (bu hD_17 hn_18) wz rfl (ae (vI ((k_14 + 1:Nat):Int)) wz rfl (ai ?_))))
       obtain rfl:=ah hc_23
       exact aR (k_14 + 1,l_15,v_31,n_33) ⟨hL_24,aN hD_17⟩ (Nat.lt_succ_self _) rfl (aH rfl)
    ·rintro ⟨s_19,n_22⟩ ho_ sl_ H_ hp_ hq_
     subst ho_
     refine aK _ hp_ hq_ (af (aa (ae (gV n_22 5 s_19) wz rfl (ae (gV n_22 5 s_19) wz rfl (ae (vI 0) wz rfl (ai (gU 2 rfl (dX 4 2 rfl rfl (dX 10 2 rfl rfl (dX 60 2 rfl rfl ?_))))))))))
     obtain rfl:=ah hF
     exact ay (aM (.inr rfl) [(vL Piece.enc s_19),(vI 0)] ⟨rfl,⟨rfl,trivial⟩⟩ rfl rfl rfl)
theorem Bq {r_1:Rect} {byv_2:Rect} {r:Rect} (hF:ql r_1 byv_2=some r) :
  FnM Tryz.prog 67 [(.d (.agg (Rect.enc r_1))),(.d (.agg (Rect.enc byv_2)))] [] (.d (.agg (Rect.enc r))) []:=by
 refine FnM.of_wH ⟨Tryz.prog,20,[],[]⟩ rfl Tryz.func67 rfl rfl (Nat.le_of_ble_eq_true rfl) (by kernel_rfl) ?_
 unfold ql at hF
 refine af (aa (dJ 0 (.inl rfl) [(vI r_1.X),(vI r_1.Y),(vI r_1.W),(vI r_1.H)] rfl rfl wz (fun n_3=>dJ 0 (.inl rfl) [(vI byv_2.X),(vI byv_2.Y),(vI byv_2.W),(vI byv_2.H)] rfl rfl wz (fun n_4=>aY 0 (.inl rfl) z45 rfl wz (fun n_5=>ai (af (aa (ax gQ rfl 0 rfl wz (au 0 0 il ft sz3 ag3 rfl rfl (vI r_1.X) rfl wz (ax gQ rfl 0 rfl wz (au 0 1 il ft sz3 ag3 rfl rfl (vI byv_2.X) rfl wz (ae (vI (w64 (r_1.X - byv_2.X))) wz rfl (ax fV rfl 1 rfl wz (au 0 0 il ft sz3 ag3 rfl rfl (vI r_1.Y) rfl wz (ax fV rfl 1 rfl wz (au 0 1 il ft sz3 ag3 rfl rfl (vI byv_2.Y) rfl wz (ae (vI (w64 (r_1.Y - byv_2.Y))) wz rfl (ax ku rfl 2 rfl wz (au 0 0 il ft sz3 ag3 rfl rfl (vI r_1.W) rfl wz (ax kw rfl 3 rfl wz (au 0 0 il ft sz3 ag3 rfl rfl (vI r_1.H) rfl wz (ae (.d (.agg (Rect.enc (⟨(w64 (r_1.X - byv_2.X)),(w64 (r_1.Y - byv_2.Y)),r_1.W,r_1.H⟩:Rect)))) wz (by kernel_rfl) (bL 0 il ft 2 dx rfl rfl [(vI (w64 (r_1.X - byv_2.X))),(vI (w64 (r_1.Y - byv_2.Y))),(vI r_1.W),(vI r_1.H)] rfl wz ?_)))))))))))))))))))))))
 refine ai ?_
 obtain rfl:=ah hF
 exact ay (aM (.inr rfl) [(.d (.agg (Rect.enc (⟨(w64 (r_1.X - byv_2.X)),(w64 (r_1.Y - byv_2.Y)),r_1.W,r_1.H⟩:Rect))))] ⟨⟨2,_,_,_,_,_,_,_,rfl,rfl,dx,gm,rfl⟩,trivial⟩ rfl rfl rfl)
end Go.Proofs.YtjhcehhmdmbleaaGreatDoor.Law

