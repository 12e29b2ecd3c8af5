/-
 The machine computes these plain functions (written by a program of ours).
-/
import Derived.Test.YtjhcehhmdmbleaaGreatDoorFacts
import Derived.Test.YtjhcehhmdmbleaaGreatDoorDefs
import Derived.Test.YtjhcehhmdmbleaaGreatDoorPf3
import Derived.Test.YtjhcehhmdmbleaaGreatDoorShelf
open Go Go.Eng Go.Proofs
namespace Go.Proofs.YtjhcehhmdmbleaaGreatDoor.Law
set_option maxRecDepth 100000
set_option linter.unusedVariables false
set_option maxHeartbeats 1000000
theorem qC {a_1:Alert} {p_2:Post} {r:Bool} (hF:iT a_1 p_2=some r) :
  FnM Tryz.prog 109 [(.d (.agg (Alert.enc a_1))),(.d (.agg (Post.enc p_2)))] [] (vB r) []:=by
 refine FnM.of_wH ⟨Tryz.prog,9,[],[]⟩ rfl Tryz.func109 rfl rfl (Nat.le_of_ble_eq_true rfl) (by kernel_rfl) ?_
 unfold iT at hF
 refine af (aa (eD 0 (.inl rfl) [(vS a_1.Id),(vS a_1.Sender),(vI a_1.Kind),(vL eS a_1.Refs),(vI a_1.At),(vI a_1.Until),(vI a_1.Weight),(vL Rect.enc a_1.Areas),(vS a_1.Text)] rfl rfl wz (fun n_3=>eD 0 (.inl rfl) [(vS p_2.Player),(vI p_2.X),(vI p_2.Y)] rfl rfl wz (fun n_4=>ae (vB false) wz rfl (ai (af (aa (aG mg rfl 7 rfl wz (aF 0 0 il ft zh Ct rfl rfl (vL Rect.enc a_1.Areas) rfl wz (ae (.fn 183 [(.ref n_4 0 0)]) wz rfl ?_))))))))))
 obtain ⟨r_5,hr_6,hF⟩:=bind_some hF
 refine aM 0 [1] il ft (gy (gid:=183) (caps := [.ref (au 0) 0 0]) (Sin := [(.cells 3 [(vS p_2.Player),(vI p_2.X),(vI p_2.Y)])]) (fun _ _ h_=>uZ h_) hb183 ⟨rfl,rfl⟩ (by kernel_rfl) (Ce (by kernel_rfl)) (yO (by kernel_rfl)) hr_6) rfl hb182 rfl (by kernel_rfl) (by kernel_rfl) (by kernel_rfl) (by kernel_rfl) (by kernel_rfl) (by kernel_rfl) (by kernel_rfl) (by decide) (by kernel_rfl) wz (vB r_5) (by kernel_rfl) ([(n_3,some (.cells 9 [(vS a_1.Id),(vS a_1.Sender),(vI a_1.Kind),(vL eS a_1.Refs),(vI a_1.At),(vI a_1.Until),(vI a_1.Weight),(vL Rect.enc a_1.Areas),(vS a_1.Text)])),(n_4,some (.cells 3 [(vS p_2.Player),(vI p_2.X),(vI p_2.Y)]))]:Hp) (by kernel_rfl) (ae (vB r_5) wz rfl (ai ?_))
 obtain rfl:=ah hF
 exact ay (aO (.inr rfl) [(vB r_5)] ⟨rfl,trivial⟩ rfl rfl rfl)
theorem yI {a_1:Alert} {b_2:Alert} {r:Int} (hF:kQ a_1 b_2=some r) :
  FnM Tryz.prog 207 [(.d (.agg (Alert.enc a_1))),(.d (.agg (Alert.enc b_2)))] [] (vI r) []:=by
 refine FnM.of_wH ⟨Tryz.prog,22,[],[]⟩ rfl Tryz.func207 rfl rfl (Nat.le_of_ble_eq_true rfl) (by kernel_rfl) ?_
 unfold kQ at hF
 refine af (aa (eD 0 (.inl rfl) [(vS a_1.Id),(vS a_1.Sender),(vI a_1.Kind),(vL eS a_1.Refs),(vI a_1.At),(vI a_1.Until),(vI a_1.Weight),(vL Rect.enc a_1.Areas),(vS a_1.Text)] rfl rfl wz (fun n_3=>eD 0 (.inl rfl) [(vS b_2.Id),(vS b_2.Sender),(vI b_2.Kind),(vL eS b_2.Refs),(vI b_2.At),(vI b_2.Until),(vI b_2.Weight),(vL Rect.enc b_2.Areas),(vS b_2.Text)] rfl rfl wz (fun n_4=>ae (vI 0) wz rfl (ai (af (cK (aG rC rfl 6 rfl wz (aF 1 1 (.inr (by kernel_rfl)) (fun _ _ ag=>trivial) sz3 ag3 rfl rfl (vI b_2.Weight) rfl wz (aG rC rfl 6 rfl wz (aF 3 0 (.inr (by kernel_rfl)) (fun _ _ ag=>⟨.inl ⟨rfl,rfl⟩,trivial⟩) sz3 ag3 rfl rfl (vI a_1.Weight) rfl wz ?_)))))))))))
 obtain ⟨r_5,hr_6,hF⟩:=bind_some hF
 refine aH (jF hr_6) rfl H7 rfl rfl rfl rfl wz (aG dZ rfl 4 rfl wz (aF 6 1 (.inr (by kernel_rfl)) (fun _ _ ag=>⟨.inl ⟨rfl,rfl⟩,⟨.inl ⟨rfl,rfl⟩,trivial⟩⟩) sz3 ag3 rfl rfl (vI b_2.At) rfl wz (aG dZ rfl 4 rfl wz (aF 8 0 (.inr (by kernel_rfl)) (fun _ _ ag=>⟨.inl ⟨rfl,rfl⟩,⟨.inl ⟨rfl,rfl⟩,⟨.inl ⟨rfl,rfl⟩,trivial⟩⟩⟩) sz3 ag3 rfl rfl (vI a_1.At) rfl wz ?_))))
 obtain ⟨r_7,hr_8,hF⟩:=bind_some hF
 refine aH (jF hr_8) rfl H7 rfl rfl rfl rfl wz (aG eT rfl 0 rfl wz (aF 11 0 (.inr (by kernel_rfl)) (fun _ _ ag=>⟨.inl ⟨rfl,rfl⟩,⟨.inl ⟨rfl,rfl⟩,⟨.inl ⟨rfl,rfl⟩,⟨.inl ⟨rfl,rfl⟩,trivial⟩⟩⟩⟩) sz9 ag9 rfl rfl (vS a_1.Id) rfl wz (aG eT rfl 0 rfl wz (aF 13 1 (.inr (by kernel_rfl)) (fun _ _ ag=>⟨.inl ⟨rfl,rfl⟩,⟨.inl ⟨rfl,rfl⟩,⟨.inl ⟨rfl,rfl⟩,⟨.inl ⟨rfl,rfl⟩,⟨.inl ⟨rfl,rfl⟩,trivial⟩⟩⟩⟩⟩) sz9 ag9 rfl rfl (vS b_2.Id) rfl wz ?_))))
 obtain ⟨r_9,hr_10,hF⟩:=bind_some hF
 refine aH (jG hr_10) rfl G7 rfl rfl rfl rfl wz (dY (([r_5,r_7,r_9]:List Int).map eI) iW si rfl rfl rfl rfl rfl wz ?_)
 obtain ⟨r_11,hr_12,hF⟩:=bind_some hF
 refine aH (uO hr_12) rfl hb107 rfl rfl rfl rfl wz (ae (vI r_11) wz rfl (ai ?_))
 obtain rfl:=ah hF
 exact ay (aO (.inr rfl) [(vI r_11)] ⟨rfl,trivial⟩ rfl rfl rfl)
theorem jv {data_1:(List Alert)} {a_2:Int} {b_3:Int} {r:(List Alert)} (hF:dR data_1 a_2 b_3=some r) :
  FnM Tryz.prog 231 [(dV (au 0) 9 data_1),(vI a_2),(vI b_3),(.fn 207 [])] (([]:List Box)++gI 9 Alert.enc data_1) (.tup []) (([]:List Box).map some++gT data_1 (gB 9 Alert.enc r)):=by
 refine FnM.of_wHv ⟨Tryz.prog,53,[],[]⟩ rfl Tryz.func231 rfl rfl (Nat.le_of_ble_eq_true rfl) (by kernel_rfl) ?_
 unfold dR at hF
 refine af (aa (ae (vI a_2) wz rfl (ae (vI (w64 (a_2 + 1))) wz rfl (ae (vI (w64 (a_2 + 1))) wz rfl (ai ?_)))))
 obtain ⟨o_13,hj_14,hF⟩:=bind_some hF
 obtain ⟨nq_51,hj_14⟩:=eu hj_14
 refine aC (β:=((List Alert)×Int)) (fun (s_10:(List Alert)×Int)=>([]:List (Nat×V))) (fun (s_10:(List Alert)×Int)=>([((au 0),gB 9 Alert.enc s_10.1)]:Hp)) (fun p=>o_13 = .go p) ?_ ?_
 ·refine aA (aV (β:=Nat×((List Alert)×Int)) (fun p=>(fun (k_5:Nat) (s_10:(List Alert)×Int)=>([(0,(dV (au 0) 9 s_10.1)),(1,(vI a_2)),(2,(vI b_3)),(3,(.fn 207 [])),(8,(vI s_10.2))]:List (Nat×V))) p.1 p.2) (fun p=>(fun (k_5:Nat) (s_10:(List Alert)×Int)=>([((au 0),gB 9 Alert.enc s_10.1)]:Hp)) p.1 p.2) (fun p=>iterN (fun s=>dD b_3 a_2 s) p.1 p.2=some o_13) (fun p=>p.1) (nq_51,(data_1,(w64 (a_2 + 1)))) hj_14 rfl (aJ rfl) ?_)
  rintro ⟨k_5,s_10⟩ hL_12
  dsimp only at hL_12
  cases k_5 with
  | zero=>cases hL_12
  | succ k_5 =>
   obtain ⟨c_,hc_11,hL_12⟩:=bind_some hL_12
   unfold dD at hc_11
   refine af (af (aa (ae (vI s_10.2) wz rfl (ae (vI b_3) wz rfl (ae (vB (decide (s_10.2 < b_3))) wz rfl (ai ?_))))))
   rcases ak hc_11 with⟨hc_15,hc_11⟩ | ⟨hc_15,hc_11⟩
   ·refine aB rfl hc_15 (av (af (aA (af (aa (ae (vI s_10.2) wz rfl (ae (vI s_10.2) wz rfl (ai ?_))))))))
    obtain ⟨o_24,hj_25,hc_11⟩:=bind_some hc_11
    obtain ⟨nq_50,hj_25⟩:=eu hj_25
    refine aC (β:=((List Alert)×Int)) (fun (s_21:(List Alert)×Int)=>([(0,(dV (au 0) 9 s_21.1)),(1,(vI a_2)),(2,(vI b_3)),(3,(.fn 207 [])),(8,(vI s_10.2))]:List (Nat×V))) (fun (s_21:(List Alert)×Int)=>([((au 0),gB 9 Alert.enc s_21.1)]:Hp)) (fun p=>o_24 = .go p) ?_ ?_
    ·refine aA (aV (β:=Nat×((List Alert)×Int)) (fun p=>(fun (k_16:Nat) (s_21:(List Alert)×Int)=>([(0,(dV (au 0) 9 s_21.1)),(1,(vI a_2)),(2,(vI b_3)),(3,(.fn 207 [])),(8,(vI s_10.2)),(9,(vI s_21.2))]:List (Nat×V))) p.1 p.2) (fun p=>(fun (k_16:Nat) (s_21:(List Alert)×Int)=>([((au 0),gB 9 Alert.enc s_21.1)]:Hp)) p.1 p.2) (fun p=>iterN (fun s=>dB a_2 s) p.1 p.2=some o_24) (fun p=>p.1) (nq_50,(s_10.1,s_10.2)) hj_25 rfl (aJ rfl) ?_)
     rintro ⟨k_16,s_21⟩ hL_23
     dsimp only at hL_23
     cases k_16 with
     | zero=>cases hL_23
     | succ k_16 =>
      obtain ⟨c_,hc_22,hL_23⟩:=bind_some hL_23
      unfold dB at hc_22
      refine af (af ?_)
      obtain ⟨v_26,h_27,hc_22⟩:=bind_some hc_22
      refine aC (β:=Unit) (fun _=>([(0,(dV (au 0) 9 s_21.1)),(1,(vI a_2)),(2,(vI b_3)),(3,(.fn 207 [])),(8,(vI s_10.2)),(9,(vI s_21.2)),(34,(vB v_26))]:List (Nat×V))) (fun _=>([((au 0),gB 9 Alert.enc s_21.1)]:Hp)) (fun _=>True) ?_ ?_
      ·refine cK (ae (vI s_21.2) wz rfl (ae (vI a_2) wz rfl (ae (vB (decide (s_21.2 > a_2))) wz rfl ?_)))
       rcases ak h_27 with⟨hc_28,h_27⟩ | ⟨hc_28,h_27⟩
       ·refine aD rfl hc_28 wz (ae (.fn 207 []) wa rfl (ae (dV (au 0) 9 s_21.1) wa rfl (ae (vI s_21.2) wa rfl ?_)))
        obtain ⟨_,hi_29,h_27⟩:=bind_some h_27
        refine jm jD rfl rfl (iP hi_29) (fO hi_29) wa ?_
        obtain ⟨e_30,hy_31,h_27⟩:=bind_some h_27
        refine jh 8 0 (.inr (by kernel_rfl)) (fun _ _ ag=>trivial) bB dS rfl rfl hy_31 (.d (.agg (Alert.enc e_30))) rfl wa (ae (dV (au 0) 9 s_21.1) wa rfl (ae (vI s_21.2) wa rfl (ae (vI (w64 (s_21.2 - 1))) wa rfl ?_)))
        obtain ⟨_,hi_32,h_27⟩:=bind_some h_27
        refine jm jD rfl rfl (iP hi_32) (fO hi_32) wa ?_
        obtain ⟨e_33,hy_34,h_27⟩:=bind_some h_27
        refine jh 13 0 (.inr (by kernel_rfl)) (fun _ _ ag=>⟨.inl ⟨rfl,rfl⟩,trivial⟩) bB dS rfl rfl hy_34 (.d (.agg (Alert.enc e_33))) rfl wa ?_
        obtain ⟨r_35,hr_36,h_27⟩:=bind_some h_27
        refine aH (yI hr_36) rfl hb207 rfl rfl rfl rfl wa (ae (vB (decide (r_35 < 0))) wa rfl (ae (vB (decide (r_35 < 0))) wz rfl (ai ?_)))
        obtain rfl:=ah h_27
        exact cu
       ·refine aD rfl hc_28 wz (aj wa (aj wa (aj wa (aj wa (aj wa (aj wa (aj wa (aj wa (aj wa (aj wa (aj wa (aj wa (ae (vB false) wz rfl (ai ?_))))))))))))))
        obtain rfl:=ah h_27
        exact cu
      ·rintro ⟨⟩ _ sl_ H_ hp_ hq_
       refine aL _ hp_ hq_ ?_
       rcases ak hc_22 with⟨hc_37,hc_22⟩ | ⟨hc_37,hc_22⟩
       ·refine aB rfl hc_37 (av (af (aA (cK (ae (dV (au 0) 9 s_21.1) wz rfl (ae (vI s_21.2) wz rfl (ae (dV (au 0) 9 s_21.1) wz rfl (ae (vI s_21.2) wz rfl (ae (vI (w64 (s_21.2 - 1))) wz rfl (ae (dV (au 0) 9 s_21.1) wz rfl (ae (vI s_21.2) wz rfl (ae (vI (w64 (s_21.2 - 1))) wz rfl ?_))))))))))))
        obtain ⟨_,hi_38,hc_22⟩:=bind_some hc_22
        refine jm jD rfl rfl (iP hi_38) (fO hi_38) wz ?_
        obtain ⟨e_39,hy_40,hc_22⟩:=bind_some hc_22
        refine jh 9 0 (.inr (by kernel_rfl)) (fun _ _ ag=>trivial) bB dS rfl rfl hy_40 (.d (.agg (Alert.enc e_39))) rfl wz (ae (dV (au 0) 9 s_21.1) wz rfl (ae (vI s_21.2) wz rfl ?_))
        obtain ⟨_,hi_41,hc_22⟩:=bind_some hc_22
        refine jm jD rfl rfl (iP hi_41) (fO hi_41) wz ?_
        obtain ⟨e_42,hy_43,hc_22⟩:=bind_some hc_22
        refine jh 13 0 (.inr (by kernel_rfl)) (fun _ _ ag=>⟨.inl ⟨rfl,rfl⟩,trivial⟩) bB dS rfl rfl hy_43 (.d (.agg (Alert.enc e_42))) rfl wz ?_
        obtain ⟨_,hi_44,hc_22⟩:=bind_some hc_22
        refine jm jD rfl rfl (iP hi_44) (fO hi_44) wz ?_
        obtain ⟨e_45,hy_46,hc_22⟩:=bind_some hc_22
        refine jl 15 (.inr (by kernel_rfl)) (fun _ _ ag=>⟨.inr (.inr (by kernel_rfl)),⟨.inr (.inr (by kernel_rfl)),trivial⟩⟩) 0 bB rfl rfl hy_46 e_39 rfl wz (bC (v':=(dV (au 0) 9 (s_21.1.set (0 + (s_21.2).toNat) e_39))) 0 rfl (bU (by simp)) (bC (v':=(dV (au 0) 9 (s_21.1.set (0 + (s_21.2).toNat) e_39))) 37 rfl (bU (by simp)) (bC (v':=(dV (au 0) 9 (s_21.1.set (0 + (s_21.2).toNat) e_39))) 39 rfl (bU (by simp)) (bC (v':=(dV (au 0) 9 (s_21.1.set (0 + (s_21.2).toNat) e_39))) 42 rfl (bU (by simp)) (bC (v':=(dV (au 0) 9 (s_21.1.set (0 + (s_21.2).toNat) e_39))) 47 rfl (bU (by simp)) ?_)))))
        obtain ⟨_,hi_47,hc_22⟩:=bind_some hc_22
        refine jm jD rfl rfl (iP hi_47) (fO hi_47) wz ?_
        obtain ⟨e_48,hy_49,hc_22⟩:=bind_some hc_22
        refine jl 17 (.inr (by kernel_rfl)) (fun _ _ ag=>⟨.inr (.inr (by kernel_rfl)),⟨.inr (.inr (by kernel_rfl)),⟨.inr (.inr (by kernel_rfl)),trivial⟩⟩⟩) 0 bB rfl rfl hy_49 e_42 rfl wz (bC (v':=(dV (au 0) 9 ((s_21.1.set (0 + (s_21.2).toNat) e_39).set (0 + ((w64 (s_21.2 - 1))).toNat) e_42))) 0 rfl (bU (by simp)) (bC (v':=(dV (au 0) 9 ((s_21.1.set (0 + (s_21.2).toNat) e_39).set (0 + ((w64 (s_21.2 - 1))).toNat) e_42))) 37 rfl (bU (by simp)) (bC (v':=(dV (au 0) 9 ((s_21.1.set (0 + (s_21.2).toNat) e_39).set (0 + ((w64 (s_21.2 - 1))).toNat) e_42))) 39 rfl (bU (by simp)) (bC (v':=(dV (au 0) 9 ((s_21.1.set (0 + (s_21.2).toNat) e_39).set (0 + ((w64 (s_21.2 - 1))).toNat) e_42))) 42 rfl (bU (by simp)) (bC (v':=(dV (au 0) 9 ((s_21.1.set (0 + (s_21.2).toNat) e_39).set (0 + ((w64 (s_21.2 - 1))).toNat) e_42))) 47 rfl (bU (by simp)) (ai (aa (ae (vI s_21.2) wz rfl (ae (vI (w64 (s_21.2 - 1))) wz rfl (ae (vI (w64 (s_21.2 - 1))) wz rfl (ai ?_)))))))))))
        obtain rfl:=ah hc_22
        exact aY (k_16,(((s_21.1.set (0 + (s_21.2).toNat) e_39).set (0 + ((w64 (s_21.2 - 1))).toNat) e_42),(w64 (s_21.2 - 1)))) hL_23 (Nat.lt_succ_self _) rfl (aJ rfl)
       ·refine ax rfl hc_37 (aX ?_)
        obtain rfl:=ah hc_22
        obtain rfl:=ah hL_23
        exact aU ((s_21.1,s_21.2)) rfl rfl (aJ rfl)
    ·rintro s_21 ho_ sl_ H_ hp_ hq_
     subst ho_
     refine aL _ hp_ hq_ (aa (ae (vI s_10.2) wz rfl (ae (vI (w64 (s_10.2 + 1))) wz rfl (ae (vI (w64 (s_10.2 + 1))) wz rfl (ai ?_)))))
     obtain rfl:=ah hc_11
     exact aY (k_5,(s_21.1,(w64 (s_10.2 + 1)))) hL_12 (Nat.lt_succ_self _) rfl (aJ rfl)
   ·refine ax rfl hc_15 (aX ?_)
    obtain rfl:=ah hc_11
    obtain rfl:=ah hL_12
    exact aU ((s_10.1,s_10.2)) rfl rfl (aJ rfl)
 ·rintro s_10 ho_ sl_ H_ hp_ hq_
  subst ho_
  show qX _ _ _ _ _ _ _ _
  obtain rfl:=ah hF
  exact uo (H0:=([((au 0),gB 9 Alert.enc s_10.1)]:Hp)) (sl':=envS []) hq_ (vZ (bs:=([]:List Box)) (os:=([]:List Box)) (xs:=data_1) (o:=gB 9 Alert.enc s_10.1) (.inl rfl) [] trivial rfl rfl rfl rfl rfl (by kernel_rfl) kF rfl)
theorem kZ {data_1:(List Alert)} {a_2:Int} {b_3:Int} {limit_4:Int} {r:(List Alert)} (hF:fC data_1 a_2 b_3 limit_4=some r) :
  FnM Tryz.prog 178 [(dV (au 0) 9 data_1),(vI a_2),(vI b_3),(vI limit_4),(.fn 207 [])] (([]:List Box)++gI 9 Alert.enc data_1) (.tup []) (([]:List Box).map some++gT data_1 (gB 9 Alert.enc r)):=by
 refine FnM.of_wHv ⟨Tryz.prog,148,[],[]⟩ rfl Tryz.func178 rfl rfl (Nat.le_of_ble_eq_true rfl) (by kernel_rfl) ?_
 unfold fC at hF
 refine af (aa (ae (vB true) wz rfl (ai (af (aa (ae (vB true) wz rfl (ai ?_)))))))
 obtain ⟨o_14,hj_15,hF⟩:=bind_some hF
 obtain ⟨nq_21,hj_15⟩:=eu hj_15
 refine aC (β:=(Unit)) (fun (s_11:Unit)=>([]:List (Nat×V))) (fun (s_11:Unit)=>([((au 0),gB 9 Alert.enc data_1)]:Hp)) (fun p=>o_14 = .go p) ?_ ?_
 ·refine aA (aV (β:=Nat×(Unit)) (fun p=>(fun (k_6:Nat) (s_11:Unit)=>([(0,(dV (au 0) 9 data_1)),(1,(vI a_2)),(2,(vI b_3)),(3,(vI limit_4)),(4,(.fn 207 [])),(10,(vB true)),(11,(vB true))]:List (Nat×V))) p.1 p.2) (fun p=>(fun (k_6:Nat) (s_11:Unit)=>([((au 0),gB 9 Alert.enc data_1)]:Hp)) p.1 p.2) (fun p=>iterN (fun s=>eG b_3 a_2 data_1 limit_4 s) p.1 p.2=some o_14) (fun p=>p.1) (nq_21,()) hj_15 rfl (aJ rfl) ?_)
  rintro ⟨k_6,s_11⟩ hL_13
  dsimp only at hL_13
  cases k_6 with
  | zero=>cases hL_13
  | succ k_6 =>
   obtain ⟨c_,hc_12,hL_13⟩:=bind_some hL_13
   unfold eG at hc_12
   refine aA (af (aa (ae (vI b_3) wz rfl (ae (vI a_2) wz rfl (ae (vI (w64 (b_3 - a_2))) wz rfl (ae (vI (w64 (b_3 - a_2))) wz rfl (ai (af (af (aa (ae (vI (w64 (b_3 - a_2))) wz rfl (ae (vB (decide ((w64 (b_3 - a_2))≤12))) wz rfl (ai ?_)))))))))))))
   rcases ak hc_12 with⟨hc_16,hc_12⟩ | ⟨hc_16,hc_12⟩
   ·refine aB rfl hc_16 (af (aa (ae (dV (au 0) 9 data_1) wz rfl (ae (vI a_2) wz rfl (ae (vI b_3) wz rfl (ae (.fn 207 []) wz rfl ?_))))))
    obtain ⟨r_17,hr_18,hc_12⟩:=bind_some hc_12
    obtain ⟨_,hs_19,hc_12⟩:=bind_some hc_12
    replace hs_19:=kE hs_19
    refine kX 0 [] 0 0 il ft (jv hr_18) rfl Jl rfl rfl rfl (by kernel_rfl) rfl (.inr (.inl rfl)) rfl (by kernel_rfl) (by kernel_rfl) (by kernel_rfl) (by kernel_rfl) rfl (by decide) (by kernel_rfl) kF (tK hs_19) wz ([((au 0),gB 9 Alert.enc r_17)]:Hp) (by kernel_rfl) (bC (v':=(dV (au 0) 9 r_17)) 0 rfl (bU hs_19.symm) (bC (v':=(dV (au 0) 9 r_17)) 26 rfl (bU hs_19.symm) (ai ?_)))
    obtain rfl:=ah hc_12
    obtain rfl:=ah hL_13
    obtain rfl:=ah hF
    exact ay (vZ (bs:=([]:List Box)) (os:=([]:List Box)) (xs:=data_1) (o:=gB 9 Alert.enc r_17) (.inr rfl) [] trivial rfl rfl rfl rfl rfl (by kernel_rfl) kF rfl)
   ·refine ax rfl hc_16 (av (af (af (aa (ae (vI limit_4) wz rfl (ae (vB (limit_4 == 0)) wz rfl (ai ?_)))))))
    rcases ak hc_12 with⟨hc_20,hc_12⟩ | ⟨hc_20,hc_12⟩
    ·refine aB rfl hc_20 (af (aa (ae (dV (au 0) 9 data_1) wz rfl (ae (vI a_2) wz rfl (ae (vI b_3) wz rfl (ae (.fn 207 []) wz rfl ?_))))))
     cases hc_12
    ·refine ax rfl hc_20 (av (af (af (aa (ae (vB true) wz rfl (ae (vB false) wz rfl (ai (ax rfl rfl (av (af (aa (ae (dV (au 0) 9 data_1) wz rfl (ae (vI a_2) wz rfl (ae (vI b_3) wz rfl (ae (.fn 207 []) wz rfl ?_)))))))))))))))
     cases hc_12
 ·rintro s_11 ho_ sl_ H_ hp_ hq_
  subst ho_
  show qX _ _ _ _ _ _ _ _
  obtain rfl:=ah hF
  exact uo (H0:=([((au 0),gB 9 Alert.enc data_1)]:Hp)) (sl':=envS []) hq_ (vZ (bs:=([]:List Box)) (os:=([]:List Box)) (xs:=data_1) (o:=gB 9 Alert.enc data_1) (.inl rfl) [] trivial rfl rfl rfl rfl rfl (by kernel_rfl) kF rfl)
theorem jQ {x_1:(List Alert)} {r:(List Alert)} (hF:bE x_1=some r) :
  FnM Tryz.prog 98 [(dV (au 0) 9 x_1),(.fn 207 [])] (([]:List Box)++gI 9 Alert.enc x_1) (.tup []) (([]:List Box).map some++gT x_1 (gB 9 Alert.enc r)):=by
 refine FnM.of_wHv ⟨Tryz.prog,14,[],[]⟩ rfl Tryz.func98 rfl rfl (Nat.le_of_ble_eq_true rfl) (by kernel_rfl) ?_
 unfold bE at hF
 refine af (aa (ae (dV (au 0) 9 x_1) wz rfl (Ai pG rfl wz (ae (vI (x_1.length:Int)) wz rfl (ai (aa (ae (dV (au 0) 9 x_1) wz rfl (ae (vI (x_1.length:Int)) wz rfl (ae (vI (x_1.length:Int)) wz rfl (zx un3 KJ rfl wz ?_))))))))))
 obtain ⟨r_3,hr_4,hF⟩:=bind_some hF
 refine aH (mQ hr_4) rfl Ky rfl rfl rfl rfl wz (ae (.fn 207 []) wz rfl ?_)
 obtain ⟨r_5,hr_6,hF⟩:=bind_some hF
 obtain ⟨_,hs_7,hF⟩:=bind_some hF
 replace hs_7:=kE hs_7
 refine kX 0 [] 0 0 il ft (kZ hr_6) rfl KI rfl rfl rfl (by kernel_rfl) rfl (.inr (.inl rfl)) rfl (by kernel_rfl) (by kernel_rfl) (by kernel_rfl) (by kernel_rfl) rfl (by decide) (by kernel_rfl) kF (tK hs_7) wz ([((au 0),gB 9 Alert.enc r_5)]:Hp) (by kernel_rfl) (bC (v':=(dV (au 0) 9 r_5)) 0 rfl (bU hs_7.symm) (bC (v':=(dV (au 0) 9 r_5)) 5 rfl (bU hs_7.symm) (bC (v':=(dV (au 0) 9 r_5)) 7 rfl (bU hs_7.symm) (ai ?_))))
 show qX _ _ _ _ _ _ _ _
 obtain rfl:=ah hF
 exact vZ (bs:=([]:List Box)) (os:=([]:List Box)) (xs:=x_1) (o:=gB 9 Alert.enc r_5) (.inl rfl) [] trivial rfl rfl rfl rfl rfl (by kernel_rfl) kF rfl
theorem yJ {l_1:(List Alert)} {endv_2:(List Int)} {p_3:Post} {atv_4:Int} {r:(List Alert)} (hF:mG l_1 endv_2 p_3 atv_4=some r) :
  FnM Tryz.prog 163 [(vL Alert.enc l_1),(vL eI endv_2),(.d (.agg (Post.enc p_3))),(vI atv_4)] [] (vL Alert.enc r) []:=by
 refine FnM.of_wH ⟨Tryz.prog,39,[],[]⟩ rfl Tryz.func163 rfl rfl (Nat.le_of_ble_eq_true rfl) (by kernel_rfl) ?_
 unfold mG at hF
 refine af (aa (eD 0 (.inl rfl) [(vS p_3.Player),(vI p_3.X),(vI p_3.Y)] rfl rfl wz (fun n_5=>ae .nil wz rfl (ai (af (aa (ae .nil wz rfl (ai (af (af (aa (ae (vL Alert.enc l_1) wz rfl (bZ pG rfl wz (ae (vI 0) wz rfl (ai (oG (fun n_12 => ?_)))))))))))))))))
 obtain ⟨o_17,hj_18,hF⟩:=bind_some hF
 obtain ⟨hn_10,hj_18⟩:=aZ hj_18
 refine aC (β:=((List Alert))×Nm) (fun p=>(fun (s_11:(List Alert)) (n_14:Nm)=>([(9,(gV n_14 9 s_11))]:List (Nat×V))) p.1 p.2) (fun p=>(fun (s_11:(List Alert)) (n_14:Nm)=>([(n_5,some (.cells 3 [(vS p_3.Player),(vI p_3.X),(vI p_3.Y)])),(n_14,gB 9 Alert.enc s_11)]:Hp)) p.1 p.2) (fun p=>o_17 = .go p.1) ?_ ?_
 ·refine aA (aV (β:=Nat×(List Alert)×((List Alert))×Nm) (fun p=>(fun (k_6:Nat) (l_7:List Alert) (s_11:(List Alert)) (n_14:Nm)=>([(1,(vL eI endv_2)),(3,(vI atv_4)),(6,(.ref n_5 0 0)),(9,(gV n_14 9 s_11)),(12,(vL Alert.enc l_1)),(13,(vI (l_1.length:Int))),(14,(vI (k_6:Int)))]:List (Nat×V))) p.1 p.2.1 p.2.2.1 p.2.2.2) (fun p=>(fun (k_6:Nat) (l_7:List Alert) (s_11:(List Alert)) (n_14:Nm)=>([(n_5,some (.cells 3 [(vS p_3.Player),(vI p_3.X),(vI p_3.Y)])),(n_14,gB 9 Alert.enc s_11)]:Hp)) p.1 p.2.1 p.2.2.1 p.2.2.2) (fun p=>forR (fun k x s=>jW endv_2 atv_4 p_3 k x s) p.2.1 p.1 p.2.2.1=some o_17∧(l_1).drop p.1=p.2.1) (fun p=>p.2.1.length) (0,l_1,([]:List Alert),n_12) ⟨hj_18,rfl⟩ rfl (aJ rfl) ?_)
  rintro ⟨k_6,l_7,s_11,n_14⟩ ⟨hL_16,hD_9⟩
  dsimp only at hL_16 hD_9
  cases l_7 with
  | nil =>
   obtain rfl:=ah hL_16
   refine af (aa (ae (vB (decide ((k_6:Int) < (l_1.length:Int)))) wz rfl (ai ?_)))
   refine af (ax rfl (drop_nil hD_9) (aX ?_))
   exact aU (s_11,n_14) rfl rfl (aJ rfl)
  | cons x_8 l_7 =>
   obtain ⟨c_,hc_15,hL_16⟩:=bind_some hL_16
   refine af (aa (ae (vB (decide ((k_6:Int) < (l_1.length:Int)))) wz rfl (ai ?_)))
   refine af (aB rfl (bv hD_9) (av ?_))
   unfold jW at hc_15
   refine af (aA (af (aa (ae (vI (k_6:Int)) wz rfl (gL jD rfl rfl (bN hD_9) rfl wz (dn bB dS rfl (.d (.agg (Alert.enc x_8))) rfl wz (fH 0 (.inl rfl) sQ rfl wz (fun n_19=>ae (vI (k_6:Int)) wz rfl (gu 0 il ft 2 bB rfl rfl [(vS x_8.Id),(vS x_8.Sender),(vI x_8.Kind),(vL eS x_8.Refs),(vI x_8.At),(vI x_8.Until),(vI x_8.Weight),(vL Rect.enc x_8.Areas),(vS x_8.Text)] rfl wz (ai (af ?_)))))))))))
   obtain ⟨v_20,h_21,hc_15⟩:=bind_some hc_15
   refine aC (β:=Unit) (fun _=>([(1,(vL eI endv_2)),(3,(vI atv_4)),(6,(.ref n_5 0 0)),(9,(gV n_14 9 s_11)),(11,(.ref n_19 0 0)),(12,(vL Alert.enc l_1)),(13,(vI (l_1.length:Int))),(14,(vI (k_6:Int))),(30,(vB v_20))]:List (Nat×V))) (fun _=>([(n_5,some (.cells 3 [(vS p_3.Player),(vI p_3.X),(vI p_3.Y)])),(n_14,gB 9 Alert.enc s_11),(n_19,some (.cells 9 [(vS x_8.Id),(vS x_8.Sender),(vI x_8.Kind),(vL eS x_8.Refs),(vI x_8.At),(vI x_8.Until),(vI x_8.Weight),(vL Rect.enc x_8.Areas),(vS x_8.Text)]))]:Hp)) (fun _=>True) ?_ ?_
   ·refine cK (aF 0 2 (.inr (by kernel_rfl)) (fun _ _ ag=>trivial) bB dS rfl rfl (.d (.agg (Alert.enc x_8))) rfl wz (ae (vL eI endv_2) wz rfl (ae (vI (k_6:Int)) wz rfl ?_)))
    obtain ⟨y_22,hy_23,h_21⟩:=bind_some h_21
    refine gL iW rfl rfl hy_23 rfl wz (dn sz3 ag3 rfl (vI y_22) rfl wz (ae (vI atv_4) wz rfl ?_))
    obtain ⟨r_24,hr_25,h_21⟩:=bind_some h_21
    refine aH (AQ hr_25) rfl hb120 rfl rfl rfl rfl wz ?_
    rcases ak h_21 with⟨hc_26,h_21⟩ | ⟨hc_26,h_21⟩
    ·refine aD rfl hc_26 wz (aF 8 2 (.inr (by kernel_rfl)) (fun _ _ ag=>⟨.inl ⟨rfl,rfl⟩,trivial⟩) bB dS rfl rfl (.d (.agg (Alert.enc x_8))) rfl wa (aF 9 0 (.inr (by kernel_rfl)) (fun _ _ ag=>⟨.inl ⟨rfl,rfl⟩,⟨.inl ⟨rfl,rfl⟩,trivial⟩⟩) qP vX rfl rfl (.d (.agg (Post.enc p_3))) rfl wa ?_))
     obtain ⟨r_27,hr_28,h_21⟩:=bind_some h_21
     refine aH (qC hr_28) rfl hb109 rfl rfl rfl rfl wa (ae (vB r_27) wz rfl (ai ?_))
     obtain rfl:=ah h_21
     exact cu
    ·refine aD rfl hc_26 wz (aj wa (aj wa (aj wa (ae (vB false) wz rfl (ai ?_)))))
     obtain rfl:=ah h_21
     exact cu
   ·rintro ⟨⟩ _ sl_ H_ hp_ hq_
    refine aL _ hp_ hq_ ?_
    obtain ⟨v_29,h_30,hc_15⟩:=bind_some hc_15
    refine aC (β:=Nm) (fun (n_31:Nm)=>([(1,(vL eI endv_2)),(3,(vI atv_4)),(6,(.ref n_5 0 0)),(9,(gV n_31 9 v_29)),(12,(vL Alert.enc l_1)),(13,(vI (l_1.length:Int))),(14,(vI (k_6:Int)))]:List (Nat×V))) (fun (n_31:Nm)=>([(n_5,some (.cells 3 [(vS p_3.Player),(vI p_3.X),(vI p_3.Y)])),(n_31,gB 9 Alert.enc v_29),(n_19,some (.cells 9 [(vS x_8.Id),(vS x_8.Sender),(vI x_8.Kind),(vL eS x_8.Refs),(vI x_8.At),(vI x_8.Until),(vI x_8.Weight),(vL Rect.enc x_8.Areas),(vS x_8.Text)]))]:Hp)) (fun _=>True) ?_ ?_
    ·rcases ak h_30 with⟨hc_32,h_30⟩ | ⟨hc_32,h_30⟩
     ·refine aB rfl hc_32 (aa (ae (gV n_14 9 s_11) wz rfl (aF 0 2 il ft bB dS rfl rfl (.d (.agg (Alert.enc x_8))) rfl wz (dY (([x_8]:List Alert).map Alert.enc) jD ez56 rfl rfl rfl rfl rfl wz ?_))))
      obtain ⟨a_33,hz_34,h_30⟩:=bind_some h_30
      refine oL 0 il ft (i:=1) Ij Ij bB sQ rfl (by decide) KQ (by decide) (fun _=>rfl) rfl rfl rfl hz_34 wz (fun n_35=>ae (gV n_35 9 a_33) wz rfl (ai ?_))
      obtain rfl:=ah h_30
      exact aU n_35 trivial rfl (aJ rfl)
     ·refine ax rfl hc_32 (av ?_)
      obtain rfl:=ah h_30
      exact aU n_14 trivial rfl (aJ rfl)
    ·rintro n_31 _ sl_ H_ hp_ hq_
     refine aL _ hp_ hq_ (aa (gQ (bJ hD_9 hn_10) wz rfl (ae (vI ((k_6 + 1:Nat):Int)) wz rfl (ai ?_))))
     obtain rfl:=ah hc_15
     exact aY (k_6 + 1,l_7,v_29,n_31) ⟨hL_16,aR hD_9⟩ (Nat.lt_succ_self _) rfl (aJ rfl)
 ·rintro ⟨s_11,n_14⟩ ho_ sl_ H_ hp_ hq_
  subst ho_
  refine aL _ hp_ hq_ (af (aa (ae (gV n_14 9 s_11) wz rfl ?_)))
  obtain ⟨r_36,hr_37,hF⟩:=bind_some hF
  obtain ⟨_,hs_38,hF⟩:=bind_some hF
  replace hs_38:=kE hs_38
  refine kX 0 [] 1 0 il ft (jQ hr_37) rfl hb98 rfl rfl rfl (by kernel_rfl) rfl (.inl rfl) rfl (by kernel_rfl) (by kernel_rfl) (by kernel_rfl) (by kernel_rfl) rfl (by decide) (by kernel_rfl) kF (tK hs_38) wz ([(n_5,some (.cells 3 [(vS p_3.Player),(vI p_3.X),(vI p_3.Y)])),(n_14,gB 9 Alert.enc r_36)]:Hp) (by kernel_rfl) (bC (v':=(gV n_14 9 r_36)) 36 rfl (bI hs_38.symm) (bC (v':=(gV n_14 9 r_36)) 9 rfl (bI hs_38.symm) (ai (af (aa (ae (gV n_14 9 r_36) wz rfl (ae (gV n_14 9 r_36) wz rfl (ai (jq 1 rfl (fQ 8 1 rfl rfl (fQ 9 1 rfl rfl (fQ 36 1 rfl rfl (fQ 38 1 rfl rfl ?_)))))))))))))
  obtain rfl:=ah hF
  exact ay (aO (.inr rfl) [(vL Alert.enc r_36)] ⟨rfl,trivial⟩ rfl rfl rfl)
theorem w9 {l_1:(List Alert)} {p_2:Post} {wv_3:Window} {r:(List Slot_)} (hF:jZ l_1 p_2 wv_3=some r) :
  FnM Tryz.prog 85 [(vL Alert.enc l_1),(.d (.agg (Post.enc p_2))),(.d (.agg (Window.enc wv_3)))] [] (vL Slot_.enc r) []:=by
 refine FnM.of_wH ⟨Tryz.prog,124,[24],[]⟩ rfl Tryz.func85 rfl rfl (Nat.le_of_ble_eq_true rfl) (by kernel_rfl) ?_
 unfold jZ at hF
 refine af (aa (eD 0 (.inl rfl) [(vS p_2.Player),(vI p_2.X),(vI p_2.Y)] rfl rfl wz (fun n_4=>eD 0 (.inl rfl) [(vI wv_3.From),(vI wv_3.To)] rfl rfl wz (fun n_5=>ae .nil wz rfl (ai (af (aa (ae (vL Alert.enc l_1) wz rfl ?_))))))))
 obtain ⟨r_6,hr_7,hF⟩:=bind_some hF
 refine aH (AZ hr_7) rfl hb103 rfl rfl rfl rfl wz (ae (vL eI r_6) wz rfl (ai (af (aa (aG xn rfl 0 rfl wz (aF 0 1 il ft sz3 ag3 rfl rfl (vI wv_3.From) rfl wz (aG pV rfl 1 rfl wz (aF 0 1 il ft sz3 ag3 rfl rfl (vI wv_3.To) rfl wz (Km 0 (.inl rfl) (([wv_3.From,wv_3.To]:List Int).map eI) iW si rfl rfl rfl rfl rfl wz (fun n_8=>ae (vV n_8 1 ([wv_3.From,wv_3.To]:List Int)) wz rfl (ai (af (af (aa (ae (vL Alert.enc l_1) wz rfl (bZ pG rfl wz (ae (vI 0) wz rfl (ai ?_))))))))))))))))))
 obtain ⟨o_19,hj_20,hF⟩:=bind_some hF
 obtain ⟨hn_13,hj_20⟩:=aZ hj_20
 refine aC (β:=((List Int))×Nm) (fun p=>(fun (s_14:(List Int)) (n_16:Nm)=>([(0,(vL Alert.enc l_1)),(4,(.ref n_4 0 0)),(7,(vL eI r_6)),(8,(vV n_16 1 s_14))]:List (Nat×V))) p.1 p.2) (fun p=>(fun (s_14:(List Int)) (n_16:Nm)=>([(n_4,some (.cells 3 [(vS p_2.Player),(vI p_2.X),(vI p_2.Y)])),(n_5,some (.cells 2 [(vI wv_3.From),(vI wv_3.To)])),(n_16,some (bV 1 eI s_14))]:Hp)) p.1 p.2) (fun p=>o_19 = .go p.1) ?_ ?_
 ·refine aA (aV (β:=Nat×(List Alert)×((List Int))×Nm) (fun p=>(fun (k_9:Nat) (l_10:List Alert) (s_14:(List Int)) (n_16:Nm)=>([(0,(vL Alert.enc l_1)),(4,(.ref n_4 0 0)),(5,(.ref n_5 0 0)),(7,(vL eI r_6)),(8,(vV n_16 1 s_14)),(25,(vL Alert.enc l_1)),(26,(vI (l_1.length:Int))),(27,(vI (k_9:Int)))]:List (Nat×V))) p.1 p.2.1 p.2.2.1 p.2.2.2) (fun p=>(fun (k_9:Nat) (l_10:List Alert) (s_14:(List Int)) (n_16:Nm)=>([(n_4,some (.cells 3 [(vS p_2.Player),(vI p_2.X),(vI p_2.Y)])),(n_5,some (.cells 2 [(vI wv_3.From),(vI wv_3.To)])),(n_16,some (bV 1 eI s_14))]:Hp)) p.1 p.2.1 p.2.2.1 p.2.2.2) (fun p=>forR (fun k x s=>iy r_6 wv_3 k x s) p.2.1 p.1 p.2.2.1=some o_19∧(l_1).drop p.1=p.2.1) (fun p=>p.2.1.length) (0,l_1,([wv_3.From,wv_3.To]:List Int),n_8) ⟨hj_20,rfl⟩ rfl (aJ rfl) ?_)
  rintro ⟨k_9,l_10,s_14,n_16⟩ ⟨hL_18,hD_12⟩
  dsimp only at hL_18 hD_12
  cases l_10 with
  | nil =>
   obtain rfl:=ah hL_18
   refine af (aa (ae (vB (decide ((k_9:Int) < (l_1.length:Int)))) wz rfl (ai ?_)))
   refine af (ax rfl (drop_nil hD_12) (aX ?_))
   exact aU (s_14,n_16) rfl rfl (aJ rfl)
  | cons x_11 l_10 =>
   obtain ⟨c_,hc_17,hL_18⟩:=bind_some hL_18
   refine af (aa (ae (vB (decide ((k_9:Int) < (l_1.length:Int)))) wz rfl (ai ?_)))
   refine af (aB rfl (bv hD_12) (av ?_))
   unfold iy at hc_17
   refine af (aA (af (aa (ae (vI (k_9:Int)) wz rfl (gL jD rfl rfl (bN hD_12) rfl wz (dn bB dS rfl (.d (.agg (Alert.enc x_11))) rfl wz (fH 0 (.inl rfl) sQ rfl wz (fun n_21=>ae (vI (k_9:Int)) wz rfl (gu 0 il ft 3 bB rfl rfl [(vS x_11.Id),(vS x_11.Sender),(vI x_11.Kind),(vL eS x_11.Refs),(vI x_11.At),(vI x_11.Until),(vI x_11.Weight),(vL Rect.enc x_11.Areas),(vS x_11.Text)] rfl wz (ai (af (cK (aG dZ rfl 4 rfl wz (aF 1 3 (.inr (by kernel_rfl)) (fun _ _ ag=>trivial) sz3 ag3 rfl rfl (vI x_11.At) rfl wz (ae (vL eI r_6) wz rfl (ae (vI (k_9:Int)) wz rfl ?_))))))))))))))))
   obtain ⟨y_22,hy_23,hc_17⟩:=bind_some hc_17
   refine gL iW rfl rfl hy_23 rfl wz (dn sz3 ag3 rfl (vI y_22) rfl wz (ae (.d (.agg [.int .i64 x_11.At,.int .i64 y_22])) wz (by kernel_rfl) (ae (vI 0) wz rfl (ai ?_))))
   obtain ⟨o_34,hj_35,hc_17⟩:=bind_some hc_17
   obtain ⟨hn_28,hj_35⟩:=aZ hj_35
   refine aC (β:=((List Int))×Nm) (fun p=>(fun (s_29:(List Int)) (n_31:Nm)=>([(0,(vL Alert.enc l_1)),(4,(.ref n_4 0 0)),(5,(.ref n_5 0 0)),(7,(vL eI r_6)),(8,(vV n_31 1 s_29)),(25,(vL Alert.enc l_1)),(26,(vI (l_1.length:Int))),(27,(vI (k_9:Int)))]:List (Nat×V))) p.1 p.2) (fun p=>(fun (s_29:(List Int)) (n_31:Nm)=>([(n_4,some (.cells 3 [(vS p_2.Player),(vI p_2.X),(vI p_2.Y)])),(n_5,some (.cells 2 [(vI wv_3.From),(vI wv_3.To)])),(n_31,some (bV 1 eI s_29)),(n_21,some (.cells 9 [(vS x_11.Id),(vS x_11.Sender),(vI x_11.Kind),(vL eS x_11.Refs),(vI x_11.At),(vI x_11.Until),(vI x_11.Weight),(vL Rect.enc x_11.Areas),(vS x_11.Text)]))]:Hp)) p.1 p.2) (fun p=>o_34 = .go p.1) ?_ ?_
   ·refine aA (aV (β:=Nat×(List Nat)×((List Int))×Nm) (fun p=>(fun (k_24:Nat) (l_25:List Nat) (s_29:(List Int)) (n_31:Nm)=>([(0,(vL Alert.enc l_1)),(4,(.ref n_4 0 0)),(5,(.ref n_5 0 0)),(7,(vL eI r_6)),(8,(vV n_31 1 s_29)),(25,(vL Alert.enc l_1)),(26,(vI (l_1.length:Int))),(27,(vI (k_9:Int))),(38,(.d (.agg [.int .i64 x_11.At,.int .i64 y_22]))),(39,(vI (k_24:Int)))]:List (Nat×V))) p.1 p.2.1 p.2.2.1 p.2.2.2) (fun p=>(fun (k_24:Nat) (l_25:List Nat) (s_29:(List Int)) (n_31:Nm)=>([(n_4,some (.cells 3 [(vS p_2.Player),(vI p_2.X),(vI p_2.Y)])),(n_5,some (.cells 2 [(vI wv_3.From),(vI wv_3.To)])),(n_31,some (bV 1 eI s_29)),(n_21,some (.cells 9 [(vS x_11.Id),(vS x_11.Sender),(vI x_11.Kind),(vL eS x_11.Refs),(vI x_11.At),(vI x_11.Until),(vI x_11.Weight),(vL Rect.enc x_11.Areas),(vS x_11.Text)]))]:Hp)) p.1 p.2.1 p.2.2.1 p.2.2.2) (fun p=>forR (fun k x s=>iZ x_11 y_22 wv_3 k x s) p.2.1 p.1 p.2.2.1=some o_34∧((List.range (2:Int).toNat)).drop p.1=p.2.1) (fun p=>p.2.1.length) (0,(List.range (2:Int).toNat),s_14,n_16) ⟨hj_35,rfl⟩ rfl (aJ rfl) ?_)
    rintro ⟨k_24,l_25,s_29,n_31⟩ ⟨hL_33,hD_27⟩
    dsimp only at hL_33 hD_27
    cases l_25 with
    | nil =>
     obtain rfl:=ah hL_33
     refine af (aa (ae (vB (decide ((k_24:Int) < 2))) wz rfl (ai ?_)))
     refine af (ax rfl (uq hD_27) (aX ?_))
     exact aU (s_29,n_31) rfl rfl (aJ rfl)
    | cons x_26 l_25 =>
     obtain ⟨c_,hc_32,hL_33⟩:=bind_some hL_33
     refine af (aa (ae (vB (decide ((k_24:Int) < 2))) wz rfl (ai ?_)))
     refine af (aB rfl (qQ hD_27) (av ?_))
     unfold iZ at hc_32
     refine af (aA (af (aa ?_)))
     obtain ⟨y_36,hy_37,hc_32⟩:=bind_some hc_32
     refine h_idxa (enc:=eI) (xs:=([x_11.At,y_22]:List Int)) un233 sz3 ag3 rfl rfl rfl rfl hy_37 (fun _=>rfl) (.inr rfl) (vI y_36) rfl wz (ae (vI y_36) wz rfl (ai (af ?_)))
     obtain ⟨v_38,h_39,hc_32⟩:=bind_some hc_32
     refine aC (β:=Unit) (fun _=>([(0,(vL Alert.enc l_1)),(4,(.ref n_4 0 0)),(5,(.ref n_5 0 0)),(7,(vL eI r_6)),(8,(vV n_31 1 s_29)),(12,(vI y_36)),(25,(vL Alert.enc l_1)),(26,(vI (l_1.length:Int))),(27,(vI (k_9:Int))),(38,(.d (.agg [.int .i64 x_11.At,.int .i64 y_22]))),(39,(vI (k_24:Int))),(51,(vB v_38))]:List (Nat×V))) (fun _=>([(n_4,some (.cells 3 [(vS p_2.Player),(vI p_2.X),(vI p_2.Y)])),(n_5,some (.cells 2 [(vI wv_3.From),(vI wv_3.To)])),(n_31,some (bV 1 eI s_29)),(n_21,some (.cells 9 [(vS x_11.Id),(vS x_11.Sender),(vI x_11.Kind),(vL eS x_11.Refs),(vI x_11.At),(vI x_11.Until),(vI x_11.Weight),(vL Rect.enc x_11.Areas),(vS x_11.Text)]))]:Hp)) (fun _=>True) ?_ ?_
     ·refine aa (aG xn rfl 0 rfl wz (aF 0 1 il ft sz3 ag3 rfl rfl (vI wv_3.From) rfl wz (ae (vI y_36) wz rfl (ae (vB (decide (wv_3.From < y_36))) wz rfl ?_))))
      rcases ak h_39 with⟨hc_40,h_39⟩ | ⟨hc_40,h_39⟩
      ·refine aD rfl hc_40 wz (ae (vI y_36) wa rfl (aG pV rfl 1 rfl wa (aF 0 1 il ft sz3 ag3 rfl rfl (vI wv_3.To) rfl wa (ae (vB (decide (y_36 < wv_3.To))) wa rfl (ae (vB (decide (y_36 < wv_3.To))) wz rfl (ai ?_))))))
       obtain rfl:=ah h_39
       exact cu
      ·refine aD rfl hc_40 wz (aj wa (aj wa (aj wa (aj wa (ae (vB false) wz rfl (ai ?_))))))
       obtain rfl:=ah h_39
       exact cu
     ·rintro ⟨⟩ _ sl_ H_ hp_ hq_
      refine aL _ hp_ hq_ ?_
      obtain ⟨v_41,h_42,hc_32⟩:=bind_some hc_32
      refine aC (β:=Nm) (fun (n_43:Nm)=>([(0,(vL Alert.enc l_1)),(4,(.ref n_4 0 0)),(5,(.ref n_5 0 0)),(7,(vL eI r_6)),(8,(vV n_43 1 v_41)),(25,(vL Alert.enc l_1)),(26,(vI (l_1.length:Int))),(27,(vI (k_9:Int))),(38,(.d (.agg [.int .i64 x_11.At,.int .i64 y_22]))),(39,(vI (k_24:Int)))]:List (Nat×V))) (fun (n_43:Nm)=>([(n_4,some (.cells 3 [(vS p_2.Player),(vI p_2.X),(vI p_2.Y)])),(n_5,some (.cells 2 [(vI wv_3.From),(vI wv_3.To)])),(n_43,some (bV 1 eI v_41)),(n_21,some (.cells 9 [(vS x_11.Id),(vS x_11.Sender),(vI x_11.Kind),(vL eS x_11.Refs),(vI x_11.At),(vI x_11.Until),(vI x_11.Weight),(vL Rect.enc x_11.Areas),(vS x_11.Text)]))]:Hp)) (fun _=>True) ?_ ?_
      ·rcases ak h_42 with⟨hc_44,h_42⟩ | ⟨hc_44,h_42⟩
       ·refine aB rfl hc_44 (aa (ae (vV n_31 1 s_29) wz rfl (ae (vI y_36) wz rfl (dY (([y_36]:List Int).map eI) iW si rfl rfl rfl rfl rfl wz ?_))))
        obtain ⟨a_45,hz_46,h_42⟩:=bind_some h_42
        refine Jq 0 il ft (i:=2) Gs Gs sz3 z3 rfl (by decide) by3 (by decide) (fun _=>rfl) rfl rfl rfl hz_46 wz (fun n_47=>ae (vV n_47 1 a_45) wz rfl (ai ?_))
        obtain rfl:=ah h_42
        exact aU n_47 trivial rfl (aJ rfl)
       ·refine ax rfl hc_44 (av ?_)
        obtain rfl:=ah h_42
        exact aU n_31 trivial rfl (aJ rfl)
      ·rintro n_43 _ sl_ H_ hp_ hq_
       refine aL _ hp_ hq_ (aa (gQ (uA hD_27 hn_28) wz rfl (ae (vI ((k_24 + 1:Nat):Int)) wz rfl (ai ?_))))
       obtain rfl:=ah hc_32
       exact aY (k_24 + 1,l_25,v_41,n_43) ⟨hL_33,aR hD_27⟩ (Nat.lt_succ_self _) rfl (aJ rfl)
   ·rintro ⟨s_29,n_31⟩ ho_ sl_ H_ hp_ hq_
    subst ho_
    refine aL _ hp_ hq_ (aa (gQ (bJ hD_12 hn_13) wz rfl (ae (vI ((k_9 + 1:Nat):Int)) wz rfl (ai ?_))))
    obtain rfl:=ah hc_17
    exact aY (k_9 + 1,l_10,s_29,n_31) ⟨hL_18,aR hD_12⟩ (Nat.lt_succ_self _) rfl (aJ rfl)
 ·rintro ⟨s_14,n_16⟩ ho_ sl_ H_ hp_ hq_
  subst ho_
  refine aL _ hp_ hq_ (af (aa (ae (vV n_16 1 s_14) wz rfl ?_)))
  obtain ⟨_,hn_48,hF⟩:=bind_some hF
  replace hn_48:=Gf hn_48
  refine D7 2 rfl (Cu hn_48).symm (bC (v':=(gV n_16 1 s_14)) 58 rfl (Hl hn_48) (bC (v':=(gV n_16 1 s_14)) 8 rfl (Hl hn_48) ?_))
  obtain ⟨r_49,hr_50,hF⟩:=bind_some hF
  obtain ⟨_,hs_51,hF⟩:=bind_some hF
  replace hs_51:=kE hs_51
  refine kX 0 [] 2 0 il ft (ll hr_50) rfl hb90 rfl rfl rfl (by kernel_rfl) rfl (.inl rfl) rfl (by kernel_rfl) (by kernel_rfl) (by kernel_rfl) (by kernel_rfl) rfl (by decide) (by kernel_rfl) kF (tK hs_51) wz ([(n_4,some (.cells 3 [(vS p_2.Player),(vI p_2.X),(vI p_2.Y)])),(n_5,some (.cells 2 [(vI wv_3.From),(vI wv_3.To)])),(n_16,gB 1 eI r_49)]:Hp) (by kernel_rfl) (bC (v':=(gV n_16 1 r_49)) 58 rfl (bI hs_51.symm) (bC (v':=(gV n_16 1 r_49)) 8 rfl (bI hs_51.symm) (ai (af (aa (ae (gV n_16 1 r_49) wz rfl ?_))))))
  obtain ⟨r_52,hr_53,hF⟩:=bind_some hF
  refine kX 0 [] 2 0 il ft (jS hr_53) rfl hb91 rfl rfl rfl (by kernel_rfl) rfl (.inl rfl) rfl (by kernel_rfl) (by kernel_rfl) (by kernel_rfl) (by kernel_rfl) rfl (by decide) (by kernel_rfl) wX (fun _=>rfl) wz ([(n_4,some (.cells 3 [(vS p_2.Player),(vI p_2.X),(vI p_2.Y)])),(n_5,some (.cells 2 [(vI wv_3.From),(vI wv_3.To)])),(n_16,none)]:Hp) (by kernel_rfl) (ae (vL eI r_52) wz rfl (ai (af (aa (ae .nil wz rfl (ai (af (af (aa (ae (vI 0) wz rfl (ai (oG (fun n_60 => ?_)))))))))))))
  obtain ⟨o_65,hj_66,hF⟩:=bind_some hF
  obtain ⟨nq_99,hj_66⟩:=eu hj_66
  refine aC (β:=((List Slot_)×Int)×Nm) (fun p=>(fun (s_59:(List Slot_)×Int) (n_62:Nm)=>([(13,(gV n_62 3 s_59.1))]:List (Nat×V))) p.1 p.2) (fun p=>(fun (s_59:(List Slot_)×Int) (n_62:Nm)=>([(n_4,some (.cells 3 [(vS p_2.Player),(vI p_2.X),(vI p_2.Y)])),(n_5,some (.cells 2 [(vI wv_3.From),(vI wv_3.To)])),(n_16,none),(n_62,gB 3 Slot_.enc s_59.1)]:Hp)) p.1 p.2) (fun p=>o_65 = .go p.1) ?_ ?_
  ·refine aA (aV (β:=Nat×((List Slot_)×Int)×Nm) (fun p=>(fun (k_54:Nat) (s_59:(List Slot_)×Int) (n_62:Nm)=>([(0,(vL Alert.enc l_1)),(4,(.ref n_4 0 0)),(7,(vL eI r_6)),(8,(vL eI r_52)),(13,(gV n_62 3 s_59.1)),(14,(vI s_59.2))]:List (Nat×V))) p.1 p.2.1 p.2.2) (fun p=>(fun (k_54:Nat) (s_59:(List Slot_)×Int) (n_62:Nm)=>([(n_4,some (.cells 3 [(vS p_2.Player),(vI p_2.X),(vI p_2.Y)])),(n_5,some (.cells 2 [(vI wv_3.From),(vI wv_3.To)])),(n_16,none),(n_62,gB 3 Slot_.enc s_59.1)]:Hp)) p.1 p.2.1 p.2.2) (fun p=>iterN (fun s=>iw r_52 l_1 r_6 p_2 s) p.1 p.2.1=some o_65) (fun p=>p.1) (nq_99,(([]:List Slot_),0),n_60) hj_66 rfl (aJ rfl) ?_)
   rintro ⟨k_54,s_59,n_62⟩ hL_64
   dsimp only at hL_64
   cases k_54 with
   | zero=>cases hL_64
   | succ k_54 =>
    obtain ⟨c_,hc_63,hL_64⟩:=bind_some hL_64
    unfold iw at hc_63
    refine af (af (aa (ae (vI s_59.2) wz rfl (ae (vI (w64 (s_59.2 + 1))) wz rfl (ae (vL eI r_52) wz rfl (bZ rZ rfl wz (ae (vB (decide ((w64 (s_59.2 + 1)) < (r_52.length:Int)))) wz rfl (ai ?_))))))))
    rcases ak hc_63 with⟨hc_67,hc_63⟩ | ⟨hc_67,hc_63⟩
    ·refine aB rfl hc_67 (av (af (aA (af (aa (ae (vS (⟨#[]⟩:ByteArray)) wz rfl (ai (af (af (cK (ae (vL Alert.enc l_1) wz rfl (ae (vL eI r_6) wz rfl (aF 2 0 (.inr (by kernel_rfl)) (fun _ _ ag=>trivial) qP vX rfl rfl (.d (.agg (Post.enc p_2))) rfl wz (ae (vL eI r_52) wz rfl (ae (vI s_59.2) wz rfl ?_)))))))))))))))
     obtain ⟨y_68,hy_69,hc_63⟩:=bind_some hc_63
     refine gL iW rfl rfl hy_69 rfl wz (dn sz3 ag3 rfl (vI y_68) rfl wz ?_)
     obtain ⟨r_70,hr_71,hc_63⟩:=bind_some hc_63
     refine aH (yJ hr_71) rfl hb163 rfl rfl rfl rfl wz (ae (vL Alert.enc r_70) wz rfl (ai (af (aa (ae (vL Alert.enc r_70) wz rfl (bZ pG rfl wz (ae (vB (decide ((r_70.length:Int) > 0))) wz rfl (ai ?_))))))))
     obtain ⟨v_72,h_73,hc_63⟩:=bind_some hc_63
     refine aC (β:=Unit) (fun _=>([(0,(vL Alert.enc l_1)),(4,(.ref n_4 0 0)),(7,(vL eI r_6)),(8,(vL eI r_52)),(13,(gV n_62 3 s_59.1)),(14,(vI s_59.2)),(15,(vS v_72))]:List (Nat×V))) (fun _=>([(n_4,some (.cells 3 [(vS p_2.Player),(vI p_2.X),(vI p_2.Y)])),(n_5,some (.cells 2 [(vI wv_3.From),(vI wv_3.To)])),(n_16,none),(n_62,gB 3 Slot_.enc s_59.1)]:Hp)) (fun _=>True) ?_ ?_
     ·rcases ak h_73 with⟨hc_74,h_73⟩ | ⟨hc_74,h_73⟩
      ·refine aB rfl hc_74 (aa (ae (vL Alert.enc r_70) wz rfl ?_))
       obtain ⟨y_75,hy_76,h_73⟩:=bind_some h_73
       refine gL jD rfl rfl hy_76 rfl wz (h_fac eT rfl [.str y_75.Id,.str y_75.Sender,.int .i64 y_75.Kind,dl eS y_75.Refs,.int .i64 y_75.At,.int .i64 y_75.Until,.int .i64 y_75.Weight,dl Rect.enc y_75.Areas,.str y_75.Text] rfl rfl wz (dn sz9 ag9 rfl (vS y_75.Id) rfl wz (ae (vS y_75.Id) wz rfl (ai ?_))))
       obtain rfl:=ah h_73
       exact cu
      ·refine ax rfl hc_74 (av ?_)
       obtain rfl:=ah h_73
       exact cu
     ·rintro ⟨⟩ _ sl_ H_ hp_ hq_
      refine aL _ hp_ hq_ (af (aa (ae (gV n_62 3 s_59.1) wz rfl (tH J4 rfl wz (ae (vI (w64 ((s_59.1.length:Int) - 1))) wz rfl (ae (vI (w64 ((s_59.1.length:Int) - 1))) wz rfl (ai (af ?_))))))))
      obtain ⟨v_77,h_78,hc_63⟩:=bind_some hc_63
      refine aC (β:=Unit) (fun _=>([(0,(vL Alert.enc l_1)),(4,(.ref n_4 0 0)),(7,(vL eI r_6)),(8,(vL eI r_52)),(13,(gV n_62 3 s_59.1)),(14,(vI s_59.2)),(15,(vS v_72)),(17,(vI (w64 ((s_59.1.length:Int) - 1)))),(97,(vB v_77))]:List (Nat×V))) (fun _=>([(n_4,some (.cells 3 [(vS p_2.Player),(vI p_2.X),(vI p_2.Y)])),(n_5,some (.cells 2 [(vI wv_3.From),(vI wv_3.To)])),(n_16,none),(n_62,gB 3 Slot_.enc s_59.1)]:Hp)) (fun _=>True) ?_ ?_
      ·refine aa (ae (vI (w64 ((s_59.1.length:Int) - 1))) wz rfl (ae (vB (decide ((w64 ((s_59.1.length:Int) - 1))≥0))) wz rfl ?_))
       rcases ak h_78 with⟨hc_79,h_78⟩ | ⟨hc_79,h_78⟩
       ·refine aD rfl hc_79 wz (ae (gV n_62 3 s_59.1) wa rfl (ae (vI (w64 ((s_59.1.length:Int) - 1))) wa rfl ?_))
        obtain ⟨_,hi_80,h_78⟩:=bind_some h_78
        refine tJ D9 rfl rfl (iP hi_80) (fO hi_80) wa (aG Kq rfl 2 rfl wa ?_)
        obtain ⟨e_81,hy_82,h_78⟩:=bind_some h_78
        refine jh 0 3 il ft sz9 ag9 rfl rfl hy_82 (vS e_81.Entry) rfl wa (ae (vS v_72) wa rfl (ae (vB (sEq e_81.Entry v_72)) wa rfl (ae (vB (sEq e_81.Entry v_72)) wz rfl (ai ?_))))
        obtain rfl:=ah h_78
        exact cu
       ·refine aD rfl hc_79 wz (aj wa (aj wa (aj wa (aj wa (aj wa (aj wa (aj wa (ae (vB false) wz rfl (ai ?_)))))))))
        obtain rfl:=ah h_78
        exact cu
      ·rintro ⟨⟩ _ sl_ H_ hp_ hq_
       refine aL _ hp_ hq_ ?_
       obtain ⟨v_83,h_84,hc_63⟩:=bind_some hc_63
       refine aC (β:=Nm) (fun (n_85:Nm)=>([(0,(vL Alert.enc l_1)),(4,(.ref n_4 0 0)),(7,(vL eI r_6)),(8,(vL eI r_52)),(13,(gV n_85 3 v_83)),(14,(vI s_59.2))]:List (Nat×V))) (fun (n_85:Nm)=>([(n_4,some (.cells 3 [(vS p_2.Player),(vI p_2.X),(vI p_2.Y)])),(n_5,some (.cells 2 [(vI wv_3.From),(vI wv_3.To)])),(n_16,none),(n_85,gB 3 Slot_.enc v_83)]:Hp)) (fun _=>True) ?_ ?_
       ·rcases ak h_84 with⟨hc_86,h_84⟩ | ⟨hc_86,h_84⟩
        ·refine aB rfl hc_86 (aa (ae (gV n_62 3 s_59.1) wz rfl (ae (vI (w64 ((s_59.1.length:Int) - 1))) wz rfl (ae (vL eI r_52) wz rfl (ae (vI s_59.2) wz rfl (ae (vI (w64 (s_59.2 + 1))) wz rfl ?_))))))
         obtain ⟨y_87,hy_88,h_84⟩:=bind_some h_84
         refine gL iW rfl rfl hy_88 rfl wz (dn sz3 ag3 rfl (vI y_87) rfl wz ?_)
         obtain ⟨_,hi_89,h_84⟩:=bind_some h_84
         refine tJ D9 rfl rfl (iP hi_89) (fO hi_89) wz (aG Jr rfl 0 rfl wz (aG pV rfl 1 rfl wz ?_))
         obtain ⟨e_90,hy_91,h_84⟩:=bind_some h_84
         refine jl 0 il ft 3 sz3 rfl rfl hy_91 (⟨(⟨e_90.Time.From,y_87⟩:Window),e_90.Entry⟩:Slot_) rfl wz (bC (v':=(gV n_62 3 (s_59.1.set (0 + ((w64 ((s_59.1.length:Int) - 1))).toNat) (⟨(⟨e_90.Time.From,y_87⟩:Window),e_90.Entry⟩:Slot_)))) 13 rfl (bI (by simp)) (bC (v':=(gV n_62 3 (s_59.1.set (0 + ((w64 ((s_59.1.length:Int) - 1))).toNat) (⟨(⟨e_90.Time.From,y_87⟩:Window),e_90.Entry⟩:Slot_)))) 98 rfl (bI (by simp)) (ai ?_)))
         obtain rfl:=ah h_84
         exact aU n_62 trivial rfl (aJ rfl)
        ·refine ax rfl hc_86 (cK (ae (gV n_62 3 s_59.1) wz rfl (ae (vL eI r_52) wz rfl (ae (vI s_59.2) wz rfl ?_))))
         obtain ⟨y_92,hy_93,h_84⟩:=bind_some h_84
         refine gL iW rfl rfl hy_93 rfl wz (dn sz3 ag3 rfl (vI y_92) rfl wz (ae (vL eI r_52) wz rfl (ae (vI s_59.2) wz rfl (ae (vI (w64 (s_59.2 + 1))) wz rfl ?_))))
         obtain ⟨y_94,hy_95,h_84⟩:=bind_some h_84
         refine gL iW rfl rfl hy_95 rfl wz (dn sz3 ag3 rfl (vI y_94) rfl wz (ae (.d (.agg (Window.enc (⟨y_92,y_94⟩:Window)))) wz (by kernel_rfl) (ae (vS v_72) wz rfl (ae (.d (.agg (Slot_.enc (⟨(⟨y_92,y_94⟩:Window),v_72⟩:Slot_)))) wz (by kernel_rfl) (dY (([(⟨(⟨y_92,y_94⟩:Window),v_72⟩:Slot_)]:List Slot_).map Slot_.enc) D9 ez67 rfl rfl rfl rfl rfl wz ?_)))))
         obtain ⟨a_96,hz_97,h_84⟩:=bind_some h_84
         refine oL 14 (.inr (by kernel_rfl)) (fun _ _ ag=>trivial) (i:=3) el67 el67 sz76 z76 rfl (by decide) by76 (by decide) (fun _=>rfl) rfl rfl rfl hz_97 wz (fun n_98=>ae (gV n_98 3 a_96) wz rfl (ai ?_))
         obtain rfl:=ah h_84
         exact aU n_98 trivial rfl (aJ rfl)
       ·rintro n_85 _ sl_ H_ hp_ hq_
        refine aL _ hp_ hq_ (aa (ae (vI s_59.2) wz rfl (ae (vI (w64 (s_59.2 + 1))) wz rfl (ae (vI (w64 (s_59.2 + 1))) wz rfl (ai ?_)))))
        obtain rfl:=ah hc_63
        exact aY (k_54,(v_83,(w64 (s_59.2 + 1))),n_85) hL_64 (Nat.lt_succ_self _) rfl (aJ rfl)
    ·refine ax rfl hc_67 (aX ?_)
     obtain rfl:=ah hc_63
     obtain rfl:=ah hL_64
     exact aU ((s_59.1,s_59.2),n_62) rfl rfl (aJ rfl)
  ·rintro ⟨s_59,n_62⟩ ho_ sl_ H_ hp_ hq_
   subst ho_
   refine aL _ hp_ hq_ (af (aa (ae (gV n_62 3 s_59.1) wz rfl (ae (gV n_62 3 s_59.1) wz rfl (ai (jq 3 rfl (fQ 6 3 rfl rfl (fQ 13 3 rfl rfl (fQ 123 3 rfl rfl ?_)))))))))
   obtain rfl:=ah hF
   exact ay (aO (.inr rfl) [(vL Slot_.enc s_59.1)] ⟨rfl,trivial⟩ rfl rfl rfl)
theorem xY {l_1:(List Alert)} {p_2:Post} {wv_3:Window} {r:(List Slot_)×Int} (hF:lC l_1 p_2 wv_3=some r) :
  FnM Tryz.prog 23 [(vL Alert.enc l_1),(.d (.agg (Post.enc p_2))),(.d (.agg (Window.enc wv_3)))] [] (.tup [(vL Slot_.enc r.1),(vI r.2)]) []:=by
 refine FnM.of_wH ⟨Tryz.prog,30,[],[]⟩ rfl Tryz.func23 rfl rfl (Nat.le_of_ble_eq_true rfl) (by kernel_rfl) ?_
 unfold lC at hF
 refine af (aa (eD 0 (.inl rfl) [(vS p_2.Player),(vI p_2.X),(vI p_2.Y)] rfl rfl wz (fun n_4=>eD 0 (.inl rfl) [(vI wv_3.From),(vI wv_3.To)] rfl rfl wz (fun n_5=>ae .nil wz rfl (ae (vI 0) wz rfl (ai (af (af (aa (ae (vL Alert.enc l_1) wz rfl (aF 0 0 il ft qP vX rfl rfl (.d (.agg (Post.enc p_2))) rfl wz (dY (([p_2]:List Post).map Post.enc) CF ez63 rfl rfl rfl rfl rfl wz ?_))))))))))))
 obtain ⟨r_6,hr_7,hF⟩:=bind_some hF
 refine aH (pq hr_7) rfl hb83 rfl rfl rfl rfl wz (ae (vI r_6) wz rfl (ai (af (aa (ae (vI r_6) wz rfl (ae (vB (r_6 != 0)) wz rfl (ai ?_)))))))
 rcases ak hF with⟨hc_8,hF⟩ | ⟨hc_8,hF⟩
 ·refine aB rfl hc_8 (af (aa (ae (vI r_6) wz rfl (ae .nil wz rfl (ae (vI r_6) wz rfl (ai ?_))))))
  obtain rfl:=ah hF
  exact ay (aO (.inr rfl) [.nil,(vI r_6)] ⟨rfl,⟨rfl,trivial⟩⟩ rfl rfl rfl)
 ·refine ax rfl hc_8 (av (af (af ?_)))
  obtain ⟨v_9,h_10,hF⟩:=bind_some hF
  refine aC (β:=Unit) (fun _=>([(0,(vL Alert.enc l_1)),(4,(.ref n_4 0 0)),(5,(.ref n_5 0 0)),(25,(vB v_9))]:List (Nat×V))) (fun _=>([(n_4,some (.cells 3 [(vS p_2.Player),(vI p_2.X),(vI p_2.Y)])),(n_5,some (.cells 2 [(vI wv_3.From),(vI wv_3.To)]))]:Hp)) (fun _=>True) ?_ ?_
  ·refine aa (aG xn rfl 0 rfl wz (aF 0 1 il ft sz3 ag3 rfl rfl (vI wv_3.From) rfl wz (aG pV rfl 1 rfl wz (aF 0 1 il ft sz3 ag3 rfl rfl (vI wv_3.To) rfl wz ?_))))
   obtain ⟨r_11,hr_12,h_10⟩:=bind_some h_10
   refine aH (fe hr_12) rfl A9 rfl rfl rfl rfl wz ?_
   rcases ak h_10 with⟨hc_13,h_10⟩ | ⟨hc_13,h_10⟩
   ·refine aD rfl hc_13 wz (aj wa (aj wa (aj wa (ae (vB true) wz rfl (ai ?_)))))
    obtain rfl:=ah h_10
    exact cu
   ·refine aD rfl hc_13 wz (aG pV rfl 1 rfl wa (aF 0 1 il ft sz3 ag3 rfl rfl (vI wv_3.To) rfl wa (ae (vB (decide (wv_3.To > 345686400000))) wa rfl (ae (vB (decide (wv_3.To > 345686400000))) wz rfl (ai ?_)))))
    obtain rfl:=ah h_10
    exact cu
  ·rintro ⟨⟩ _ sl_ H_ hp_ hq_
   refine aL _ hp_ hq_ ?_
   rcases ak hF with⟨hc_14,hF⟩ | ⟨hc_14,hF⟩
   ·refine aB rfl hc_14 (af (aa (ae .nil wz rfl (ae (vI 1) wz rfl (ai ?_)))))
    obtain rfl:=ah hF
    exact ay (aO (.inr rfl) [.nil,(vI 1)] ⟨rfl,⟨rfl,trivial⟩⟩ rfl rfl rfl)
   ·refine ax rfl hc_14 (av (af (aa (ae (vL Alert.enc l_1) wz rfl (aF 0 0 il ft qP vX rfl rfl (.d (.agg (Post.enc p_2))) rfl wz (aF 0 1 il ft Jh ag60 rfl rfl (.d (.agg (Window.enc wv_3))) rfl wz ?_))))))
    obtain ⟨r_15,hr_16,hF⟩:=bind_some hF
    refine aH (w9 hr_16) rfl hb85 rfl rfl rfl rfl wz (ae (vL Slot_.enc r_15) wz rfl (ae (vI 0) wz rfl (ai ?_)))
    obtain rfl:=ah hF
    exact ay (aO (.inr rfl) [(vL Slot_.enc r_15),(vI 0)] ⟨rfl,⟨rfl,trivial⟩⟩ rfl rfl rfl)
theorem gY {n_1:Int} {low_2:Int} {high_3:Int} {r:Bool} (hF:jg n_1 low_2 high_3=some r) :
  FnM Tryz.prog 89 [(vI n_1),(vI low_2),(vI high_3)] [] (vB r) []:=by
 refine FnM.of_wH ⟨Tryz.prog,15,[],[]⟩ rfl Tryz.func89 rfl rfl (Nat.le_of_ble_eq_true rfl) (by kernel_rfl) ?_
 unfold jg at hF
 refine af (aa (ae (vB false) wz rfl (ai (af ?_))))
 obtain ⟨v_4,h_5,hF⟩:=bind_some hF
 refine aC (β:=Unit) (fun _=>([(6,(vB v_4))]:List (Nat×V))) (fun _=>([]:Hp)) (fun _=>True) ?_ ?_
 ·refine aa (ae (vI low_2) wz rfl (ae (vI n_1) wz rfl (ae (vB (decide (low_2≤n_1))) wz rfl ?_)))
  rcases ak h_5 with⟨hc_6,h_5⟩ | ⟨hc_6,h_5⟩
  ·refine aD rfl hc_6 wz (ae (vI n_1) wa rfl (ae (vI high_3) wa rfl (ae (vB (decide (n_1≤high_3))) wa rfl (ae (vB (decide (n_1≤high_3))) wz rfl (ae (vB (decide (n_1≤high_3))) wz rfl (ai ?_))))))
   obtain rfl:=ah h_5
   exact cu
  ·refine aD rfl hc_6 wz (aj wa (aj wa (aj wa (ae (vB false) wz rfl (ae (vB false) wz rfl (ai ?_))))))
   obtain rfl:=ah h_5
   exact cu
 ·rintro ⟨⟩ _ sl_ H_ hp_ hq_
  refine aL _ hp_ hq_ ?_
  obtain rfl:=ah hF
  exact ay (aO (.inr rfl) [(vB v_4)] ⟨rfl,trivial⟩ rfl rfl rfl)
theorem l9 {s_1:ByteArray} {c_2:Int} {r:Int} (hF:eF s_1 c_2=some r) :
  FnM Tryz.prog 280 [(vS s_1),(.d (.int .u8 c_2))] [] (vI r) []:=by
 refine FnM.of_wH ⟨Tryz.prog,8,[],[]⟩ rfl Tryz.func280 rfl rfl (Nat.le_of_ble_eq_true rfl) (by kernel_rfl) ?_
 unfold eF at hF
 refine af (aa (ae (vI 0) wz rfl (ai (af (aa (ae (vS s_1) wz rfl (ae (.d (.int .u8 c_2)) wz rfl (h_ext (ext_ixB (f:=320) Tryz.func320 rfl rfl (by kernel_rfl) (by kernel_rfl) _ _) rfl nb320 rfl wz (ae (vI (ixB s_1 c_2)) wz rfl (ai ?_))))))))))
 obtain rfl:=ah hF
 exact ay (aO (.inr rfl) [(vI (ixB s_1 c_2))] ⟨rfl,trivial⟩ rfl rfl rfl)
theorem sw {s_1:ByteArray} {c_2:Int} {r:Int} (hF:strings_IndexByte s_1 c_2=some r) :
  FnM Tryz.prog 213 [(vS s_1),(.d (.int .u8 c_2))] [] (vI r) []:=by
 refine FnM.of_wH ⟨Tryz.prog,8,[],[]⟩ rfl Tryz.func213 rfl rfl (Nat.le_of_ble_eq_true rfl) (by kernel_rfl) ?_
 unfold strings_IndexByte at hF
 refine af (aa (ae (vI 0) wz rfl (ai (af (aa (ae (vS s_1) wz rfl (ae (.d (.int .u8 c_2)) wz rfl ?_)))))))
 obtain ⟨r_3,hr_4,hF⟩:=bind_some hF
 refine aH (l9 hr_4) rfl hb280 rfl rfl rfl rfl wz (ae (vI r_3) wz rfl (ai ?_))
 obtain rfl:=ah hF
 exact ay (aO (.inr rfl) [(vI r_3)] ⟨rfl,trivial⟩ rfl rfl rfl)
theorem yo {s_1:ByteArray} {somev_2:ByteArray} {r:Bool} (hF:qj s_1 somev_2=some r) :
  FnM Tryz.prog 165 [(vS s_1),(vS somev_2)] [] (vB r) []:=by
 refine FnM.of_wH ⟨Tryz.prog,18,[],[]⟩ rfl Tryz.func165 rfl rfl (Nat.le_of_ble_eq_true rfl) (by kernel_rfl) ?_
 unfold qj at hF
 refine af (aa (ae (vB false) wz rfl (ai (af (af (aa (ae (vS s_1) wz rfl (nQ un9 rfl wz (ae (vI 0) wz rfl (ai ?_))))))))))
 obtain ⟨o_11,hj_12,hF⟩:=bind_some hF
 obtain ⟨hn_7,hj_12⟩:=aZ hj_12
 refine aC (β:=(Unit)) (fun (s_8:Unit)=>([]:List (Nat×V))) (fun (s_8:Unit)=>([]:Hp)) (fun p=>o_11 = .go p) ?_ ?_
 ·refine aA (aV (β:=Nat×(List Nat)×(Unit)) (fun p=>(fun (k_3:Nat) (l_4:List Nat) (s_8:Unit)=>([(0,(vS s_1)),(1,(vS somev_2)),(7,(vI (s_1.size:Int))),(8,(vI (k_3:Int)))]:List (Nat×V))) p.1 p.2.1 p.2.2) (fun p=>(fun (k_3:Nat) (l_4:List Nat) (s_8:Unit)=>([]:Hp)) p.1 p.2.1 p.2.2) (fun p=>forR (fun k x s=>l5 s_1 somev_2 k x s) p.2.1 p.1 p.2.2=some o_11∧((List.range ((s_1.size:Int)).toNat)).drop p.1=p.2.1) (fun p=>p.2.1.length) (0,(List.range ((s_1.size:Int)).toNat),()) ⟨hj_12,rfl⟩ rfl (aJ rfl) ?_)
  rintro ⟨k_3,l_4,s_8⟩ ⟨hL_10,hD_6⟩
  dsimp only at hL_10 hD_6
  cases l_4 with
  | nil =>
   obtain rfl:=ah hL_10
   refine af (aa (ae (vB (decide ((k_3:Int) < (s_1.size:Int)))) wz rfl (ai ?_)))
   refine af (ax rfl (uq hD_6) (aX ?_))
   exact aU (s_8) rfl rfl (aJ rfl)
  | cons x_5 l_4 =>
   obtain ⟨c_,hc_9,hL_10⟩:=bind_some hL_10
   refine af (aa (ae (vB (decide ((k_3:Int) < (s_1.size:Int)))) wz rfl (ai ?_)))
   refine af (aB rfl (qQ hD_6) (av ?_))
   unfold l5 at hc_9
   refine af (aA (af (aa (ae (vI (k_3:Int)) wz rfl (ae (vI (k_3:Int)) wz rfl (ai (af (aa (ae (vS somev_2) wz rfl (ae (vS s_1) wz rfl (ae (vI (k_3:Int)) wz rfl ?_)))))))))))
   obtain ⟨b_13,hy_14,hc_9⟩:=bind_some hc_9
   refine pY un9 rfl rfl hy_14 wz ?_
   obtain ⟨r_15,hr_16,hc_9⟩:=bind_some hc_9
   refine aH (sw hr_16) rfl hb213 rfl rfl rfl rfl wz (ae (vB (decide (r_15 < 0))) wz rfl (ai ?_))
   rcases ak hc_9 with⟨hc_17,hc_9⟩ | ⟨hc_17,hc_9⟩
   ·refine aB rfl hc_17 (af (aa (ae (vB false) wz rfl (ai ?_))))
    obtain rfl:=ah hc_9
    obtain rfl:=ah hL_10
    obtain rfl:=ah hF
    exact ay (aO (.inr rfl) [(vB false)] ⟨rfl,trivial⟩ rfl rfl rfl)
   ·refine ax rfl hc_17 (av (aa (gQ (uA hD_6 hn_7) wz rfl (ae (vI ((k_3 + 1:Nat):Int)) wz rfl (ai ?_)))))
    obtain rfl:=ah hc_9
    exact aY (k_3 + 1,l_4,()) ⟨hL_10,aR hD_6⟩ (Nat.lt_succ_self _) rfl (aJ rfl)
 ·rintro s_8 ho_ sl_ H_ hp_ hq_
  subst ho_
  refine aL _ hp_ hq_ (af (aa (ae (vB true) wz rfl (ai ?_))))
  obtain rfl:=ah hF
  exact ay (aO (.inr rfl) [(vB true)] ⟨rfl,trivial⟩ rfl rfl rfl)
theorem rG {s_1:ByteArray} {r:Bool} (hF:pU s_1=some r) :
  FnM Tryz.prog 88 [(vS s_1)] [] (vB r) []:=by
 refine FnM.of_wH ⟨Tryz.prog,15,[],[]⟩ rfl Tryz.func88 rfl rfl (Nat.le_of_ble_eq_true rfl) (by kernel_rfl) ?_
 unfold pU at hF
 refine af (aa (ae (vB false) wz rfl (ai (af ?_))))
 obtain ⟨v_2,h_3,hF⟩:=bind_some hF
 refine aC (β:=Unit) (fun _=>([(2,(vB v_2))]:List (Nat×V))) (fun _=>([]:Hp)) (fun _=>True) ?_ ?_
 ·refine aa (ae (vS s_1) wz rfl (nQ un9 rfl wz ?_))
  obtain ⟨r_4,hr_5,h_3⟩:=bind_some h_3
  refine aH (gY hr_5) rfl wB rfl rfl rfl rfl wz ?_
  rcases ak h_3 with⟨hc_6,h_3⟩ | ⟨hc_6,h_3⟩
  ·refine aD rfl hc_6 wz (ae (vS s_1) wa rfl ?_)
   obtain ⟨y_7,hy_8,h_3⟩:=bind_some h_3
   refine tC un9 rfl rfl hy_8 wa ?_
   obtain ⟨r_9,hr_10,h_3⟩:=bind_some h_3
   refine aH (yo hr_10) rfl hb165 rfl rfl rfl rfl wa (ae (vB r_9) wz rfl ?_)
   rcases ak h_3 with⟨hc_11,h_3⟩ | ⟨hc_11,h_3⟩
   ·refine aD rfl hc_11 wz (ae (vS s_1) wa rfl ?_)
    obtain ⟨r_12,hr_13,h_3⟩:=bind_some h_3
    refine aH (yo hr_13) rfl hb165 rfl rfl rfl rfl wa (ae (vB r_12) wz rfl (ae (vB r_12) wz rfl (ai ?_)))
    obtain rfl:=ah h_3
    exact cu
   ·refine aD rfl hc_11 wz (aj wa (aj wa (ae (vB false) wz rfl (ae (vB false) wz rfl (ai ?_)))))
    obtain rfl:=ah h_3
    exact cu
  ·refine aD rfl hc_6 wz (aj wa (aj wa (aj wa (ae (vB false) wz rfl (ae (vB false) wz rfl (aj wa (aj wa (ae (vB false) wz rfl (ae (vB false) wz rfl (ai ?_))))))))))
   obtain rfl:=ah h_3
   exact cu
 ·rintro ⟨⟩ _ sl_ H_ hp_ hq_
  refine aL _ hp_ hq_ ?_
  obtain rfl:=ah hF
  exact ay (aO (.inr rfl) [(vB v_2)] ⟨rfl,trivial⟩ rfl rfl rfl)
theorem AU {atv_1:Int} {r:Bool} (hF:oF atv_1=some r) :
  FnM Tryz.prog 122 [(vI atv_1)] [] (vB r) []:=by
 refine FnM.of_wH ⟨Tryz.prog,5,[],[]⟩ rfl Tryz.func122 rfl rfl (Nat.le_of_ble_eq_true rfl) (by kernel_rfl) ?_
 unfold oF at hF
 refine af (aa (ae (vB false) wz rfl (ai (af (aa (ae (vI atv_1) wz rfl ?_))))))
 obtain ⟨r_2,hr_3,hF⟩:=bind_some hF
 refine aH (gY hr_3) rfl wB rfl rfl rfl rfl wz (ae (vB r_2) wz rfl (ai ?_))
 obtain rfl:=ah hF
 exact ay (aO (.inr rfl) [(vB r_2)] ⟨rfl,trivial⟩ rfl rfl rfl)
theorem xJ {r_1:Rect} {r:Int} (hF:lK r_1=some r) :
  FnM Tryz.prog 141 [(.d (.agg (Rect.enc r_1)))] [] (vI r) []:=by
 refine FnM.of_wH ⟨Tryz.prog,31,[],[]⟩ rfl Tryz.func141 rfl rfl (Nat.le_of_ble_eq_true rfl) (by kernel_rfl) ?_
 unfold lK at hF
 refine af (aa (eD 0 (.inl rfl) [(vI r_1.X),(vI r_1.Y),(vI r_1.W),(vI r_1.H)] rfl rfl wz (fun n_2=>ae (vI 0) wz rfl (ai (af (af ?_))))))
 obtain ⟨v_3,h_4,hF⟩:=bind_some hF
 refine aC (β:=Unit) (fun _=>([(30,(vB v_3))]:List (Nat×V))) (fun _=>([(n_2,some (.cells 4 [(vI r_1.X),(vI r_1.Y),(vI r_1.W),(vI r_1.H)]))]:Hp)) (fun _=>True) ?_ ?_
 ·refine aa (aG qW rfl 0 rfl wz (aF 0 0 il ft sz3 ag3 rfl rfl (vI r_1.X) rfl wz ?_))
  obtain ⟨r_5,hr_6,h_4⟩:=bind_some h_4
  refine aH (gY hr_6) rfl wB rfl rfl rfl rfl wz (ae (vB (!r_5)) wz rfl ?_)
  rcases ak h_4 with⟨hc_7,h_4⟩ | ⟨hc_7,h_4⟩
  ·refine aD rfl hc_7 wz (aj wa (aj wa (aj wa (aj wa (ae (vB true) wz rfl (ae (vB true) wz rfl (aj wa (aj wa (aj wa (aj wa (aj wa (aj wa (aj wa (ae (vB true) wz rfl (ae (vB true) wz rfl (aj wa (aj wa (aj wa (aj wa (aj wa (aj wa (aj wa (ae (vB true) wz rfl ?_)))))))))))))))))))))))
   refine ai ?_
   obtain rfl:=ah h_4
   exact cu
  ·refine aD rfl hc_7 wz (aG rE rfl 1 rfl wa (aF 0 0 il ft sz3 ag3 rfl rfl (vI r_1.Y) rfl wa ?_))
   obtain ⟨r_8,hr_9,h_4⟩:=bind_some h_4
   refine aH (gY hr_9) rfl wB rfl rfl rfl rfl wa (ae (vB (!r_8)) wa rfl (ae (vB (!r_8)) wz rfl ?_))
   rcases ak h_4 with⟨hc_10,h_4⟩ | ⟨hc_10,h_4⟩
   ·refine aD rfl hc_10 wz (aj wa (aj wa (aj wa (aj wa (aj wa (aj wa (aj wa (ae (vB true) wz rfl (ae (vB true) wz rfl (aj wa (aj wa (aj wa (aj wa (aj wa (aj wa (aj wa (ae (vB true) wz rfl (ai ?_))))))))))))))))))
    obtain rfl:=ah h_4
    exact cu
   ·refine aD rfl hc_10 wz (aG Ap rfl 2 rfl wa (aF 0 0 il ft sz3 ag3 rfl rfl (vI r_1.W) rfl wa (aG qW rfl 0 rfl wa (aF 0 0 il ft sz3 ag3 rfl rfl (vI r_1.X) rfl wa (ae (vI (w64 (100000 - r_1.X))) wa rfl ?_)))))
    obtain ⟨r_11,hr_12,h_4⟩:=bind_some h_4
    refine aH (gY hr_12) rfl wB rfl rfl rfl rfl wa (ae (vB (!r_11)) wa rfl (ae (vB (!r_11)) wz rfl ?_))
    rcases ak h_4 with⟨hc_13,h_4⟩ | ⟨hc_13,h_4⟩
    ·refine aD rfl hc_13 wz (aj wa (aj wa (aj wa (aj wa (aj wa (aj wa (aj wa (ae (vB true) wz rfl (ai ?_)))))))))
     obtain rfl:=ah h_4
     exact cu
    ·refine aD rfl hc_13 wz (aG xA rfl 3 rfl wa (aF 0 0 il ft sz3 ag3 rfl rfl (vI r_1.H) rfl wa (aG rE rfl 1 rfl wa (aF 0 0 il ft sz3 ag3 rfl rfl (vI r_1.Y) rfl wa (ae (vI (w64 (100000 - r_1.Y))) wa rfl ?_)))))
     obtain ⟨r_14,hr_15,h_4⟩:=bind_some h_4
     refine aH (gY hr_15) rfl wB rfl rfl rfl rfl wa (ae (vB (!r_14)) wa rfl (ae (vB (!r_14)) wz rfl (ai ?_)))
     obtain rfl:=ah h_4
     exact cu
 ·rintro ⟨⟩ _ sl_ H_ hp_ hq_
  refine aL _ hp_ hq_ ?_
  rcases ak hF with⟨hc_16,hF⟩ | ⟨hc_16,hF⟩
  ·refine aB rfl hc_16 (af (aa (ae (vI 1) wz rfl (ai ?_))))
   obtain rfl:=ah hF
   exact ay (aO (.inr rfl) [(vI 1)] ⟨rfl,trivial⟩ rfl rfl rfl)
  ·refine ax rfl hc_16 (av (af (aa (ae (vI 0) wz rfl (ai ?_)))))
   obtain rfl:=ah hF
   exact ay (aO (.inr rfl) [(vI 0)] ⟨rfl,trivial⟩ rfl rfl rfl)
theorem zg {r_1:Int} {r:Bool} (hF:nG r_1=some r) :
  FnM Tryz.prog 210 [(.d (.int .i32 r_1))] [] (vB r) []:=by
 refine FnM.of_wH ⟨Tryz.prog,9,[],[]⟩ rfl Tryz.func210 rfl rfl (Nat.le_of_ble_eq_true rfl) (by kernel_rfl) ?_
 unfold nG at hF
 refine af (aa (ae (vB false) wz rfl (ai (af ?_))))
 obtain ⟨v_2,h_3,hF⟩:=bind_some hF
 refine aC (β:=Unit) (fun _=>([(2,(vB v_2))]:List (Nat×V))) (fun _=>([]:Hp)) (fun _=>True) ?_ ?_
 ·refine aa (ae (.d (.int .i32 r_1)) wz rfl (ae (vB (decide (r_1 < 32))) wz rfl ?_))
  rcases ak h_3 with⟨hc_4,h_3⟩ | ⟨hc_4,h_3⟩
  ·refine aD rfl hc_4 wz (aj wa (aj wa (ae (vB true) wz rfl (ae (vB true) wz rfl (ai ?_)))))
   obtain rfl:=ah h_3
   exact cu
  ·refine aD rfl hc_4 wz (ae (.d (.int .i32 r_1)) wa rfl (ae (vB (r_1 == 127)) wa rfl (ae (vB (r_1 == 127)) wz rfl (ae (vB (r_1 == 127)) wz rfl (ai ?_)))))
   obtain rfl:=ah h_3
   exact cu
 ·rintro ⟨⟩ _ sl_ H_ hp_ hq_
  refine aL _ hp_ hq_ ?_
  obtain rfl:=ah hF
  exact ay (aO (.inr rfl) [(vB v_2)] ⟨rfl,trivial⟩ rfl rfl rfl)
theorem nJ {x:ByteArray} {r:Bool} (hF:iB x=some r) :
  FnM Tryz.prog 209 [(.d (.str x)),(.fn 210 [])] [] (.d (.bool r)) [] :=
 AV rfl (fun a b h=>zg h) hb210 (fun s p w eg hp=>Tryz.strings_ContainsFunc_grows 210 #[] eg p s w hp) hF
theorem CY {s_1:ByteArray} {r:Bool} (hF:oC s_1=some r) :
  FnM Tryz.prog 164 [(vS s_1)] [] (vB r) []:=by
 refine FnM.of_wH ⟨Tryz.prog,21,[],[]⟩ rfl Tryz.func164 rfl rfl (Nat.le_of_ble_eq_true rfl) (by kernel_rfl) ?_
 unfold oC at hF
 refine af (aa (ae (vB false) wz rfl (ai (af ?_))))
 obtain ⟨v_2,h_3,hF⟩:=bind_some hF
 refine aC (β:=Unit) (fun _=>([(2,(vB v_2))]:List (Nat×V))) (fun _=>([]:Hp)) (fun _=>True) ?_ ?_
 ·refine aa (ae (vS s_1) wz rfl ?_)
  obtain ⟨r_4,hr_5,h_3⟩:=bind_some h_3
  refine aH (ku hr_5) rfl hb208 rfl rfl rfl rfl wz ?_
  rcases ak h_3 with⟨hc_6,h_3⟩ | ⟨hc_6,h_3⟩
  ·refine aD rfl hc_6 wz (ae (vS s_1) wa rfl ?_)
   obtain ⟨r_7,hr_8,h_3⟩:=bind_some h_3
   refine aH (nJ hr_8) rfl hb209 rfl rfl rfl rfl wa (ae (vB (!r_7)) wa rfl (ae (vB (!r_7)) wz rfl ?_))
   rcases ak h_3 with⟨hc_9,h_3⟩ | ⟨hc_9,h_3⟩
   ·refine aD rfl hc_9 wz (ae (vS s_1) wa rfl ?_)
    obtain ⟨r_10,hr_11,h_3⟩:=bind_some h_3
    refine aH (rV hr_11) rfl hb211 rfl rfl rfl rfl wa (ae (vS s_1) wa rfl (ae (vB (sEq r_10 s_1)) wa rfl (ae (vB (sEq r_10 s_1)) wz rfl ?_)))
    rcases ak h_3 with⟨hc_12,h_3⟩ | ⟨hc_12,h_3⟩
    ·refine aD rfl hc_12 wz (ae (vS s_1) wa rfl ?_)
     obtain ⟨r_13,hr_14,h_3⟩:=bind_some h_3
     refine aH (nZ hr_14) rfl hb212 rfl rfl rfl rfl wa (ae (vB (!r_13)) wa rfl (ae (vB (!r_13)) wz rfl (ae (vB (!r_13)) wz rfl (ai ?_))))
     obtain rfl:=ah h_3
     exact cu
    ·refine aD rfl hc_12 wz (aj wa (aj wa (aj wa (ae (vB false) wz rfl (ae (vB false) wz rfl (ai ?_))))))
     obtain rfl:=ah h_3
     exact cu
   ·refine aD rfl hc_9 wz (aj wa (aj wa (aj wa (aj wa (ae (vB false) wz rfl (ae (vB false) wz rfl (aj wa (aj wa (aj wa (ae (vB false) wz rfl (ae (vB false) wz rfl (ai ?_))))))))))))
    obtain rfl:=ah h_3
    exact cu
  ·refine aD rfl hc_6 wz (aj wa (aj wa (aj wa (ae (vB false) wz rfl (ae (vB false) wz rfl (aj wa (aj wa (aj wa (aj wa (ae (vB false) wz rfl (ae (vB false) wz rfl (aj wa (aj wa (aj wa (ae (vB false) wz rfl (ae (vB false) wz rfl (ai ?_)))))))))))))))))
   obtain rfl:=ah h_3
   exact cu
 ·rintro ⟨⟩ _ sl_ H_ hp_ hq_
  refine aL _ hp_ hq_ ?_
  obtain rfl:=ah hF
  exact ay (aO (.inr rfl) [(vB v_2)] ⟨rfl,trivial⟩ rfl rfl rfl)
theorem wG {a_1:Alert} {r:Int} (hF:kC a_1=some r) :
  FnM Tryz.prog 86 [(.d (.agg (Alert.enc a_1)))] [] (vI r) []:=by
 refine FnM.of_wH ⟨Tryz.prog,139,[],[]⟩ rfl Tryz.func86 rfl rfl (Nat.le_of_ble_eq_true rfl) (by kernel_rfl) ?_
 unfold kC at hF
 refine af (aa (eD 0 (.inl rfl) [(vS a_1.Id),(vS a_1.Sender),(vI a_1.Kind),(vL eS a_1.Refs),(vI a_1.At),(vI a_1.Until),(vI a_1.Weight),(vL Rect.enc a_1.Areas),(vS a_1.Text)] rfl rfl wz (fun n_2=>ae (vI 0) wz rfl (ai (af (aA (af ?_)))))))
 obtain ⟨v_3,h_4,hF⟩:=bind_some hF
 refine aC (β:=Unit) (fun _=>([(1,(.ref n_2 0 0)),(8,(vB v_3))]:List (Nat×V))) (fun _=>([(n_2,some (.cells 9 [(vS a_1.Id),(vS a_1.Sender),(vI a_1.Kind),(vL eS a_1.Refs),(vI a_1.At),(vI a_1.Until),(vI a_1.Weight),(vL Rect.enc a_1.Areas),(vS a_1.Text)]))]:Hp)) (fun _=>True) ?_ ?_
 ·refine aa (aG eT rfl 0 rfl wz (aF 0 0 il ft sz9 ag9 rfl rfl (vS a_1.Id) rfl wz ?_))
  obtain ⟨r_5,hr_6,h_4⟩:=bind_some h_4
  refine aH (rG hr_6) rfl hb88 rfl rfl rfl rfl wz (ae (vB (!r_5)) wz rfl ?_)
  rcases ak h_4 with⟨hc_7,h_4⟩ | ⟨hc_7,h_4⟩
  ·refine aD rfl hc_7 wz (aj wa (aj wa (aj wa (aj wa (ae (vB true) wz rfl (ae (vB true) wz rfl (ai ?_)))))))
   obtain rfl:=ah h_4
   exact cu
  ·refine aD rfl hc_7 wz (aG rF rfl 1 rfl wa (aF 0 0 il ft sz9 ag9 rfl rfl (vS a_1.Sender) rfl wa ?_))
   obtain ⟨r_8,hr_9,h_4⟩:=bind_some h_4
   refine aH (rG hr_9) rfl hb88 rfl rfl rfl rfl wa (ae (vB (!r_8)) wa rfl (ae (vB (!r_8)) wz rfl (ae (vB (!r_8)) wz rfl (ai ?_))))
   obtain rfl:=ah h_4
   exact cu
 ·rintro ⟨⟩ _ sl_ H_ hp_ hq_
  refine aL _ hp_ hq_ ?_
  rcases ak hF with⟨hc_10,hF⟩ | ⟨hc_10,hF⟩
  ·refine aB rfl hc_10 (af (aa (ae (vI 5) wz rfl (ai ?_))))
   obtain rfl:=ah hF
   exact ay (aO (.inr rfl) [(vI 5)] ⟨rfl,trivial⟩ rfl rfl rfl)
  ·refine ax rfl hc_10 (af (aa (aG lL rfl 2 rfl wz (aF 0 0 il ft sz3 ag3 rfl rfl (vI a_1.Kind) rfl wz ?_))))
   obtain ⟨r_11,hr_12,hF⟩:=bind_some hF
   refine aH (gY hr_12) rfl wB rfl rfl rfl rfl wz (ae (vB (!r_11)) wz rfl (ae (vB (!r_11)) wz rfl (ai ?_)))
   rcases ak hF with⟨hc_13,hF⟩ | ⟨hc_13,hF⟩
   ·refine aB rfl hc_13 (af (aa (ae (vI 4) wz rfl (ai ?_))))
    obtain rfl:=ah hF
    exact ay (aO (.inr rfl) [(vI 4)] ⟨rfl,trivial⟩ rfl rfl rfl)
   ·refine ax rfl hc_13 (af (aa (aG jI rfl 3 rfl wz (aF 0 0 il ft uM xk rfl rfl (vL eS a_1.Refs) rfl wz (bZ vv rfl wz (ae (vB (decide ((a_1.Refs.length:Int) > 20))) wz rfl (ae (vB (decide ((a_1.Refs.length:Int) > 20))) wz rfl (ai ?_))))))))
    rcases ak hF with⟨hc_14,hF⟩ | ⟨hc_14,hF⟩
    ·refine aB rfl hc_14 (af (aa (ae (vI 2) wz rfl (ai ?_))))
     obtain rfl:=ah hF
     exact ay (aO (.inr rfl) [(vI 2)] ⟨rfl,trivial⟩ rfl rfl rfl)
    ·refine ax rfl hc_14 (av (af (af (aa (aG jI rfl 3 rfl wz (aF 0 0 il ft uM xk rfl rfl (vL eS a_1.Refs) rfl wz (bZ vv rfl wz (ae (vI 0) wz rfl (ai ?_)))))))))
     obtain ⟨o_23,hj_24,hF⟩:=bind_some hF
     obtain ⟨hn_19,hj_24⟩:=aZ hj_24
     refine aC (β:=(Unit)) (fun (s_20:Unit)=>([(1,(.ref n_2 0 0))]:List (Nat×V))) (fun (s_20:Unit)=>([(n_2,some (.cells 9 [(vS a_1.Id),(vS a_1.Sender),(vI a_1.Kind),(vL eS a_1.Refs),(vI a_1.At),(vI a_1.Until),(vI a_1.Weight),(vL Rect.enc a_1.Areas),(vS a_1.Text)]))]:Hp)) (fun p=>o_23 = .go p) ?_ ?_
     ·refine aA (aV (β:=Nat×(List ByteArray)×(Unit)) (fun p=>(fun (k_15:Nat) (l_16:List ByteArray) (s_20:Unit)=>([(1,(.ref n_2 0 0)),(30,(vL eS a_1.Refs)),(31,(vI (a_1.Refs.length:Int))),(32,(vI (k_15:Int)))]:List (Nat×V))) p.1 p.2.1 p.2.2) (fun p=>(fun (k_15:Nat) (l_16:List ByteArray) (s_20:Unit)=>([(n_2,some (.cells 9 [(vS a_1.Id),(vS a_1.Sender),(vI a_1.Kind),(vL eS a_1.Refs),(vI a_1.At),(vI a_1.Until),(vI a_1.Weight),(vL Rect.enc a_1.Areas),(vS a_1.Text)]))]:Hp)) p.1 p.2.1 p.2.2) (fun p=>forR (fun k x s=>gZ a_1 k x s) p.2.1 p.1 p.2.2=some o_23∧(a_1.Refs).drop p.1=p.2.1) (fun p=>p.2.1.length) (0,a_1.Refs,()) ⟨hj_24,rfl⟩ rfl (aJ rfl) ?_)
      rintro ⟨k_15,l_16,s_20⟩ ⟨hL_22,hD_18⟩
      dsimp only at hL_22 hD_18
      cases l_16 with
      | nil =>
       obtain rfl:=ah hL_22
       refine af (aa (ae (vB (decide ((k_15:Int) < (a_1.Refs.length:Int)))) wz rfl (ai ?_)))
       refine af (ax rfl (drop_nil hD_18) (aX ?_))
       exact aU (s_20) rfl rfl (aJ rfl)
      | cons x_17 l_16 =>
       obtain ⟨c_,hc_21,hL_22⟩:=bind_some hL_22
       refine af (aa (ae (vB (decide ((k_15:Int) < (a_1.Refs.length:Int)))) wz rfl (ai ?_)))
       refine af (aB rfl (bv hD_18) (av ?_))
       unfold gZ at hc_21
       refine af (aA (af (aa (ae (vI (k_15:Int)) wz rfl (gL mM rfl rfl (bN hD_18) rfl wz (dn sz9 ag9 rfl (vS x_17) rfl wz (ae (vI (k_15:Int)) wz rfl (ae (vS x_17) wz rfl (ai (aA (af (aa (ae (vS x_17) wz rfl ?_)))))))))))))
       obtain ⟨r_25,hr_26,hc_21⟩:=bind_some hc_21
       refine aH (rG hr_26) rfl hb88 rfl rfl rfl rfl wz (ae (vB (!r_25)) wz rfl (ae (vB (!r_25)) wz rfl (ai ?_)))
       rcases ak hc_21 with⟨hc_27,hc_21⟩ | ⟨hc_27,hc_21⟩
       ·refine aB rfl hc_27 (af (aa (ae (vI 5) wz rfl (ai ?_))))
        obtain rfl:=ah hc_21
        obtain rfl:=ah hL_22
        obtain rfl:=ah hF
        exact ay (aO (.inr rfl) [(vI 5)] ⟨rfl,trivial⟩ rfl rfl rfl)
       ·refine ax rfl hc_27 (af ?_)
        obtain ⟨v_28,h_29,hc_21⟩:=bind_some hc_21
        refine aC (β:=Unit) (fun _=>([(1,(.ref n_2 0 0)),(4,(vS x_17)),(30,(vL eS a_1.Refs)),(31,(vI (a_1.Refs.length:Int))),(32,(vI (k_15:Int))),(41,(vB v_28))]:List (Nat×V))) (fun _=>([(n_2,some (.cells 9 [(vS a_1.Id),(vS a_1.Sender),(vI a_1.Kind),(vL eS a_1.Refs),(vI a_1.At),(vI a_1.Until),(vI a_1.Weight),(vL Rect.enc a_1.Areas),(vS a_1.Text)]))]:Hp)) (fun _=>True) ?_ ?_
        ·refine aa (ae (vI (k_15:Int)) wz rfl (ae (vB (decide ((k_15:Int) > 0))) wz rfl ?_))
         rcases ak h_29 with⟨hc_30,h_29⟩ | ⟨hc_30,h_29⟩
         ·refine aD rfl hc_30 wz (ae (vS x_17) wa rfl (aG jI rfl 3 rfl wa (aF 0 0 il ft uM xk rfl rfl (vL eS a_1.Refs) rfl wa (ae (vI (k_15:Int)) wa rfl (ae (vI (w64 ((k_15:Int) - 1))) wa rfl ?_)))))
          obtain ⟨y_31,hy_32,h_29⟩:=bind_some h_29
          refine gL mM rfl rfl hy_32 rfl wa (dn sz9 ag9 rfl (vS y_31) rfl wa (ae (vB (sLe x_17 y_31)) wa rfl (ae (vB (sLe x_17 y_31)) wz rfl (ae (vB (sLe x_17 y_31)) wz rfl (ai ?_)))))
          obtain rfl:=ah h_29
          exact cu
         ·refine aD rfl hc_30 wz (aj wa (aj wa (aj wa (aj wa (aj wa (aj wa (aj wa (aj wa (ae (vB false) wz rfl (ae (vB false) wz rfl (ai ?_)))))))))))
          obtain rfl:=ah h_29
          exact cu
        ·rintro ⟨⟩ _ sl_ H_ hp_ hq_
         refine aL _ hp_ hq_ ?_
         rcases ak hc_21 with⟨hc_33,hc_21⟩ | ⟨hc_33,hc_21⟩
         ·refine aB rfl hc_33 (af (aa (ae (vI 7) wz rfl (ai ?_))))
          obtain rfl:=ah hc_21
          obtain rfl:=ah hL_22
          obtain rfl:=ah hF
          exact ay (aO (.inr rfl) [(vI 7)] ⟨rfl,trivial⟩ rfl rfl rfl)
         ·refine ax rfl hc_33 (af (aa (ae (vS x_17) wz rfl (aG eT rfl 0 rfl wz (aF 0 0 il ft sz9 ag9 rfl rfl (vS a_1.Id) rfl wz (ae (vB (sEq x_17 a_1.Id)) wz rfl (ae (vB (sEq x_17 a_1.Id)) wz rfl (ai ?_))))))))
          rcases ak hc_21 with⟨hc_34,hc_21⟩ | ⟨hc_34,hc_21⟩
          ·refine aB rfl hc_34 (af (aa (ae (vI 14) wz rfl (ai ?_))))
           obtain rfl:=ah hc_21
           obtain rfl:=ah hL_22
           obtain rfl:=ah hF
           exact ay (aO (.inr rfl) [(vI 14)] ⟨rfl,trivial⟩ rfl rfl rfl)
          ·refine ax rfl hc_34 (av (aa (gQ (bJ hD_18 hn_19) wz rfl (ae (vI ((k_15 + 1:Nat):Int)) wz rfl (ai ?_)))))
           obtain rfl:=ah hc_21
           exact aY (k_15 + 1,l_16,()) ⟨hL_22,aR hD_18⟩ (Nat.lt_succ_self _) rfl (aJ rfl)
     ·rintro s_20 ho_ sl_ H_ hp_ hq_
      subst ho_
      refine aL _ hp_ hq_ (af (aA (af (aa (aG lL rfl 2 rfl wz (aF 0 0 il ft sz3 ag3 rfl rfl (vI a_1.Kind) rfl wz (ae (vB (a_1.Kind == 1)) wz rfl (aG jI rfl 3 rfl wz (aF 0 0 il ft uM xk rfl rfl (vL eS a_1.Refs) rfl wz (bZ vv rfl wz (ae (vB ((a_1.Refs.length:Int) == 0)) wz rfl (Cm un4 rfl rfl wz (ae (vB (!((a_1.Kind == 1) == ((a_1.Refs.length:Int) == 0)))) wz rfl (ai ?_))))))))))))))
      rcases ak hF with⟨hc_35,hF⟩ | ⟨hc_35,hF⟩
      ·refine aB rfl hc_35 (af (aa (ae (vI 3) wz rfl (ai ?_))))
       obtain rfl:=ah hF
       exact ay (aO (.inr rfl) [(vI 3)] ⟨rfl,trivial⟩ rfl rfl rfl)
      ·refine ax rfl hc_35 (af ?_)
       obtain ⟨v_36,h_37,hF⟩:=bind_some hF
       refine aC (β:=Unit) (fun _=>([(1,(.ref n_2 0 0)),(69,(vB v_36))]:List (Nat×V))) (fun _=>([(n_2,some (.cells 9 [(vS a_1.Id),(vS a_1.Sender),(vI a_1.Kind),(vL eS a_1.Refs),(vI a_1.At),(vI a_1.Until),(vI a_1.Weight),(vL Rect.enc a_1.Areas),(vS a_1.Text)]))]:Hp)) (fun _=>True) ?_ ?_
       ·refine aa (aG dZ rfl 4 rfl wz (aF 0 0 il ft sz3 ag3 rfl rfl (vI a_1.At) rfl wz ?_))
        obtain ⟨r_38,hr_39,h_37⟩:=bind_some h_37
        refine aH (AU hr_39) rfl hb122 rfl rfl rfl rfl wz (ae (vB (!r_38)) wz rfl ?_)
        rcases ak h_37 with⟨hc_40,h_37⟩ | ⟨hc_40,h_37⟩
        ·refine aD rfl hc_40 wz (aj wa (aj wa (aj wa (aj wa (aj wa (aj wa (aj wa (aj wa (aj wa (aj wa (ae (vB true) wz rfl (ae (vB true) wz rfl (aj wa (aj wa (aj wa (aj wa (ae (vB true) wz rfl (ae (vB true) wz rfl (ai ?_)))))))))))))))))))
         obtain rfl:=ah h_37
         exact cu
        ·refine aD rfl hc_40 wz (aG rJ rfl 5 rfl wa (aF 0 0 il ft sz3 ag3 rfl rfl (vI a_1.Until) rfl wa (aG dZ rfl 4 rfl wa (aF 0 0 il ft sz3 ag3 rfl rfl (vI a_1.At) rfl wa (ae (vI (w64 (a_1.At + 1))) wa rfl (aG dZ rfl 4 rfl wa (aF 0 0 il ft sz3 ag3 rfl rfl (vI a_1.At) rfl wa (ae (vI (w64 (a_1.At + 2592000000))) wa rfl ?_))))))))
         obtain ⟨r_41,hr_42,h_37⟩:=bind_some h_37
         refine aH (gY hr_42) rfl wB rfl rfl rfl rfl wa (ae (vB (!r_41)) wa rfl (ae (vB (!r_41)) wz rfl ?_))
         rcases ak h_37 with⟨hc_43,h_37⟩ | ⟨hc_43,h_37⟩
         ·refine aD rfl hc_43 wz (aj wa (aj wa (aj wa (aj wa (ae (vB true) wz rfl (ae (vB true) wz rfl (ai ?_)))))))
          obtain rfl:=ah h_37
          exact cu
         ·refine aD rfl hc_43 wz (aG rC rfl 6 rfl wa (aF 0 0 il ft sz3 ag3 rfl rfl (vI a_1.Weight) rfl wa ?_))
          obtain ⟨r_44,hr_45,h_37⟩:=bind_some h_37
          refine aH (gY hr_45) rfl wB rfl rfl rfl rfl wa (ae (vB (!r_44)) wa rfl (ae (vB (!r_44)) wz rfl (ae (vB (!r_44)) wz rfl (ai ?_))))
          obtain rfl:=ah h_37
          exact cu
       ·rintro ⟨⟩ _ sl_ H_ hp_ hq_
        refine aL _ hp_ hq_ ?_
        rcases ak hF with⟨hc_46,hF⟩ | ⟨hc_46,hF⟩
        ·refine aB rfl hc_46 (af (aa (ae (vI 1) wz rfl (ai ?_))))
         obtain rfl:=ah hF
         exact ay (aO (.inr rfl) [(vI 1)] ⟨rfl,trivial⟩ rfl rfl rfl)
        ·refine ax rfl hc_46 (af (aa (aG mg rfl 7 rfl wz (aF 0 0 il ft zh Ct rfl rfl (vL Rect.enc a_1.Areas) rfl wz (bZ FU rfl wz (ae (vB (decide ((a_1.Areas.length:Int) > 20))) wz rfl (ae (vB (decide ((a_1.Areas.length:Int) > 20))) wz rfl (ai ?_))))))))
         rcases ak hF with⟨hc_47,hF⟩ | ⟨hc_47,hF⟩
         ·refine aB rfl hc_47 (af (aa (ae (vI 2) wz rfl (ai ?_))))
          obtain rfl:=ah hF
          exact ay (aO (.inr rfl) [(vI 2)] ⟨rfl,trivial⟩ rfl rfl rfl)
         ·refine ax rfl hc_47 (av (af (af (aa (aG mg rfl 7 rfl wz (aF 0 0 il ft zh Ct rfl rfl (vL Rect.enc a_1.Areas) rfl wz (bZ FU rfl wz (ae (vI 0) wz rfl (ai ?_)))))))))
          obtain ⟨o_56,hj_57,hF⟩:=bind_some hF
          obtain ⟨hn_52,hj_57⟩:=aZ hj_57
          refine aC (β:=(Unit)) (fun (s_53:Unit)=>([(1,(.ref n_2 0 0))]:List (Nat×V))) (fun (s_53:Unit)=>([(n_2,some (.cells 9 [(vS a_1.Id),(vS a_1.Sender),(vI a_1.Kind),(vL eS a_1.Refs),(vI a_1.At),(vI a_1.Until),(vI a_1.Weight),(vL Rect.enc a_1.Areas),(vS a_1.Text)]))]:Hp)) (fun p=>o_56 = .go p) ?_ ?_
          ·refine aA (aV (β:=Nat×(List Rect)×(Unit)) (fun p=>(fun (k_48:Nat) (l_49:List Rect) (s_53:Unit)=>([(1,(.ref n_2 0 0)),(98,(vL Rect.enc a_1.Areas)),(99,(vI (a_1.Areas.length:Int))),(100,(vI (k_48:Int)))]:List (Nat×V))) p.1 p.2.1 p.2.2) (fun p=>(fun (k_48:Nat) (l_49:List Rect) (s_53:Unit)=>([(n_2,some (.cells 9 [(vS a_1.Id),(vS a_1.Sender),(vI a_1.Kind),(vL eS a_1.Refs),(vI a_1.At),(vI a_1.Until),(vI a_1.Weight),(vL Rect.enc a_1.Areas),(vS a_1.Text)]))]:Hp)) p.1 p.2.1 p.2.2) (fun p=>forR (fun k x s=>gX k x s) p.2.1 p.1 p.2.2=some o_56∧(a_1.Areas).drop p.1=p.2.1) (fun p=>p.2.1.length) (0,a_1.Areas,()) ⟨hj_57,rfl⟩ rfl (aJ rfl) ?_)
           rintro ⟨k_48,l_49,s_53⟩ ⟨hL_55,hD_51⟩
           dsimp only at hL_55 hD_51
           cases l_49 with
           | nil =>
            obtain rfl:=ah hL_55
            refine af (aa (ae (vB (decide ((k_48:Int) < (a_1.Areas.length:Int)))) wz rfl (ai ?_)))
            refine af (ax rfl (drop_nil hD_51) (aX ?_))
            exact aU (s_53) rfl rfl (aJ rfl)
           | cons x_50 l_49 =>
            obtain ⟨c_,hc_54,hL_55⟩:=bind_some hL_55
            refine af (aa (ae (vB (decide ((k_48:Int) < (a_1.Areas.length:Int)))) wz rfl (ai ?_)))
            refine af (aB rfl (bv hD_51) (av ?_))
            unfold gX at hc_54
            refine af (aA (af (aa (gL Jd rfl rfl (bN hD_51) rfl wz (dn rz AC rfl (.d (.agg (Rect.enc x_50))) rfl wz (fH 0 (.inl rfl) z45 rfl wz (fun n_58=>gu 0 il ft 1 rz rfl rfl [(vI x_50.X),(vI x_50.Y),(vI x_50.W),(vI x_50.H)] rfl wz (ai (af (aa (aF 0 1 il ft rz AC rfl rfl (.d (.agg (Rect.enc x_50))) rfl wz ?_)))))))))))
            obtain ⟨r_59,hr_60,hc_54⟩:=bind_some hc_54
            refine aH (xJ hr_60) rfl hb141 rfl rfl rfl rfl wz (ae (vI r_59) wz rfl (ai (af (aa (ae (vI r_59) wz rfl (ae (vB (r_59 != 0)) wz rfl (ai ?_)))))))
            rcases ak hc_54 with⟨hc_61,hc_54⟩ | ⟨hc_61,hc_54⟩
            ·refine aB rfl hc_61 (af (aa (ae (vI r_59) wz rfl (ae (vI r_59) wz rfl (ai ?_)))))
             obtain rfl:=ah hc_54
             obtain rfl:=ah hL_55
             obtain rfl:=ah hF
             exact ay (aO (.inr rfl) [(vI r_59)] ⟨rfl,trivial⟩ rfl rfl rfl)
            ·refine ax rfl hc_61 (av (aa (gQ (bJ hD_51 hn_52) wz rfl (ae (vI ((k_48 + 1:Nat):Int)) wz rfl (ai ?_)))))
             obtain rfl:=ah hc_54
             exact aY (k_48 + 1,l_49,()) ⟨hL_55,aR hD_51⟩ (Nat.lt_succ_self _) rfl (aJ rfl)
          ·rintro s_53 ho_ sl_ H_ hp_ hq_
           subst ho_
           refine aL _ hp_ hq_ (af (aA (af (aa (aG lL rfl 2 rfl wz (aF 0 0 il ft sz3 ag3 rfl rfl (vI a_1.Kind) rfl wz (ae (vB (a_1.Kind == 3)) wz rfl (aG mg rfl 7 rfl wz (aF 0 0 il ft zh Ct rfl rfl (vL Rect.enc a_1.Areas) rfl wz (bZ FU rfl wz (ae (vB ((a_1.Areas.length:Int) == 0)) wz rfl (Cm un4 rfl rfl wz (ae (vB (!((a_1.Kind == 3) == ((a_1.Areas.length:Int) == 0)))) wz rfl (ai ?_))))))))))))))
           rcases ak hF with⟨hc_62,hF⟩ | ⟨hc_62,hF⟩
           ·refine aB rfl hc_62 (af (aa (ae (vI 3) wz rfl (ai ?_))))
            obtain rfl:=ah hF
            exact ay (aO (.inr rfl) [(vI 3)] ⟨rfl,trivial⟩ rfl rfl rfl)
           ·refine ax rfl hc_62 (af (aa (aG pM rfl 8 rfl wz (aF 0 0 il ft sz9 ag9 rfl rfl (vS a_1.Text) rfl wz (nQ un9 rfl wz (ae (vB (decide ((a_1.Text.size:Int) > 500))) wz rfl (ae (vB (decide ((a_1.Text.size:Int) > 500))) wz rfl (ai ?_))))))))
            rcases ak hF with⟨hc_63,hF⟩ | ⟨hc_63,hF⟩
            ·refine aB rfl hc_63 (af (aa (ae (vI 2) wz rfl (ai ?_))))
             obtain rfl:=ah hF
             exact ay (aO (.inr rfl) [(vI 2)] ⟨rfl,trivial⟩ rfl rfl rfl)
            ·refine ax rfl hc_63 (af ?_)
             obtain ⟨v_64,h_65,hF⟩:=bind_some hF
             refine aC (β:=Unit) (fun _=>([(124,(vB v_64))]:List (Nat×V))) (fun _=>([(n_2,some (.cells 9 [(vS a_1.Id),(vS a_1.Sender),(vI a_1.Kind),(vL eS a_1.Refs),(vI a_1.At),(vI a_1.Until),(vI a_1.Weight),(vL Rect.enc a_1.Areas),(vS a_1.Text)]))]:Hp)) (fun _=>True) ?_ ?_
             ·refine aa (aG pM rfl 8 rfl wz (aF 0 0 il ft sz9 ag9 rfl rfl (vS a_1.Text) rfl wz ?_))
              obtain ⟨r_66,hr_67,h_65⟩:=bind_some h_65
              refine aH (CY hr_67) rfl hb164 rfl rfl rfl rfl wz (ae (vB (!r_66)) wz rfl ?_)
              rcases ak h_65 with⟨hc_68,h_65⟩ | ⟨hc_68,h_65⟩
              ·refine aD rfl hc_68 wz (aj wa (aj wa (aj wa (aj wa (aj (wn rfl rfl) (aj (wn rfl rfl) (aj (wn rfl rfl) (aj wa (ae (vB true) wz rfl (ae (vB true) wz rfl (ai ?_)))))))))))
               obtain rfl:=ah h_65
               exact cu
              ·refine aD rfl hc_68 wz (aG pM rfl 8 rfl wa (aF 0 0 il ft sz9 ag9 rfl rfl (vS a_1.Text) rfl wa (ae (vB (sEq a_1.Text (⟨#[]⟩:ByteArray))) wa rfl ?_)))
               rcases ak h_65 with⟨hc_69,h_65⟩ | ⟨hc_69,h_65⟩
               ·refine aD rfl hc_69 wa (aG lL rfl 2 rfl wa (aF 0 0 il ft sz3 ag3 rfl rfl (vI a_1.Kind) rfl wa (ae (vB (a_1.Kind != 3)) wa rfl (ae (vB (a_1.Kind != 3)) wa rfl (ae (vB (a_1.Kind != 3)) wz rfl (ae (vB (a_1.Kind != 3)) wz rfl (ai ?_)))))))
                obtain rfl:=ah h_65
                exact cu
               ·refine aD rfl hc_69 wa (aj wa (aj wa (aj wa (ae (vB false) wa rfl (ae (vB false) wz rfl (ae (vB false) wz rfl (ai ?_)))))))
                obtain rfl:=ah h_65
                exact cu
             ·rintro ⟨⟩ _ sl_ H_ hp_ hq_
              refine aL _ hp_ hq_ ?_
              rcases ak hF with⟨hc_70,hF⟩ | ⟨hc_70,hF⟩
              ·refine aB rfl hc_70 (af (aa (ae (vI 3) wz rfl (ai ?_))))
               obtain rfl:=ah hF
               exact ay (aO (.inr rfl) [(vI 3)] ⟨rfl,trivial⟩ rfl rfl rfl)
              ·refine ax rfl hc_70 (av (af (aa (ae (vI 0) wz rfl (ai ?_)))))
               obtain rfl:=ah hF
               exact ay (aO (.inr rfl) [(vI 0)] ⟨rfl,trivial⟩ rfl rfl rfl)
theorem Eb {n_1:Int} {r:Int} (hF:wQ n_1=some r) :
  FnM Tryz.prog 129 [(vI n_1)] [] (vI r) []:=by
 refine FnM.of_wH ⟨Tryz.prog,9,[],[]⟩ rfl Tryz.func129 rfl rfl (Nat.le_of_ble_eq_true rfl) (by kernel_rfl) ?_
 unfold wQ at hF
 refine af (aa (ae (vI 0) wz rfl (ai (af (aA (af (aa (ae (vI n_1) wz rfl (ae (vB (decide (n_1 < 0))) wz rfl (ae (vB (decide (n_1 < 0))) wz rfl (ai ?_)))))))))))
 rcases ak hF with⟨hc_2,hF⟩ | ⟨hc_2,hF⟩
 ·refine aB rfl hc_2 (af (aa (ae (vI (-1)) wz rfl (ai ?_))))
  obtain rfl:=ah hF
  exact ay (aO (.inr rfl) [(vI (-1))] ⟨rfl,trivial⟩ rfl rfl rfl)
 ·refine ax rfl hc_2 (af (aa (ae (vI n_1) wz rfl (ae (vB (decide (n_1 > 0))) wz rfl (ae (vB (decide (n_1 > 0))) wz rfl (ai ?_))))))
  rcases ak hF with⟨hc_3,hF⟩ | ⟨hc_3,hF⟩
  ·refine aB rfl hc_3 (af (aa (ae (vI 1) wz rfl (ai ?_))))
   obtain rfl:=ah hF
   exact ay (aO (.inr rfl) [(vI 1)] ⟨rfl,trivial⟩ rfl rfl rfl)
  ·refine ax rfl hc_3 (av (af (aa (ae (vI 0) wz rfl (ai ?_)))))
   obtain rfl:=ah hF
   exact ay (aO (.inr rfl) [(vI 0)] ⟨rfl,trivial⟩ rfl rfl rfl)
end Go.Proofs.YtjhcehhmdmbleaaGreatDoor.Law

