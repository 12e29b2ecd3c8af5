/-
 The machine computes these plain functions (written by a program of ours).
-/
import Derived.Test.YtljhfffghjclfaaGreatDoorFacts
import Derived.Test.YtljhfffghjclfaaGreatDoorDefs
import Derived.Test.YtljhfffghjclfaaGreatDoorPf3
open Go Go.Eng Go.Proofs
namespace Go.Proofs.YtljhfffghjclfaaGreatDoor.Law
set_option maxRecDepth 100000
set_option linter.unusedVariables false
set_option maxHeartbeats 1000000
theorem xS {l_1:(List Alert)} {line_2:ByteArray} {r:(List Alert)×Bool} (hF:alert_readLine l_1 line_2=some r) :
  Im Alert.al Tryz.prog 33 [(gV (ak 0) 9 l_1),(vS line_2)] [] (λ_=>[]) l_1 r.1 (λv_ => .tup [v_,(vB r.2)]):=by
 refine FnM.of_wHal Alert.al ⟨Tryz.prog,196,[100101,100101],[]⟩ rfl Tryz.func33 rfl rfl (lb_ rfl) (by kernel_rfl) (λ_ _=>rfl) (λ_ _ h_=>al_ro h_) (λ_=>rfl) (λ_ _=>rfl) (λ_ _ _=>rfl) ?_
 unfold alert_readLine at hF
 show wH _ _ _ _ ([((ak 0),Alert.al.box l_1 (Alert.al.exA 0 l_1) (Alert.al.exB 0 l_1)),((Alert.al.exA 0 l_1),gB 1 eS (aY Alert.Refs l_1)),((Alert.al.exB 0 l_1),gB 4 Rect.enc (aY Alert.Areas l_1))]:Hp)
 refine ai (aa .nil (aa (vB false) (ah (au (ai (aa (vS line_2) ?_))))))
 obtain ⟨r_3,hr_4,hF⟩:=bind_some hF
 refine aD (nM hr_4) rfl hb56 rfl rfl rfl rfl wz (aa (.tup [(vS r_3.1),(vB r_3.2)]) (aa (vS r_3.1) (aa (vB r_3.2) (aa (vS r_3.1) (aa (vB r_3.2) (ah (ai (aa (vB r_3.2) (ah ?_)))))))))
 rcases aj hF with⟨hc_5,hF⟩|⟨hc_5,hF⟩
 ·refine aC rfl hc_5 (au (au ?_))
  obtain ⟨v_6,h_7,hF⟩:=bind_some hF
  refine aN [(0,(gV (ak 0) 9 l_1)),(6,(vS r_3.1)),(38,(vB v_6))] [((ak 0),Alert.al.box l_1 (Alert.al.exA 0 l_1) (Alert.al.exB 0 l_1)),((Alert.al.exA 0 l_1),gB 1 eS (aY Alert.Refs l_1)),((Alert.al.exB 0 l_1),gB 4 Rect.enc (aY Alert.Areas l_1))] ?_ ?_
  ·refine av (aa (gV (ak 0) 9 l_1) (mo oK rfl wz (aa (vB ((l_1.length:Int)==0)) ?_)))
   rcases aj h_7 with⟨hc_8,h_7⟩|⟨hc_8,h_7⟩
   ·refine ay rfl hc_8 wz (af (af (aa (vB true) (aa (vB true) (af (af (af (af (af (af (af (af (aa (vB true) (ah ?_))))))))))))))
    obtain rfl:=ae h_7
    exact cu
   ·refine ay rfl hc_8 wz (aH (vS r_3.1) wa rfl (aH (vB (sEq r_3.1 (⟨#[]⟩:ByteArray))) wa rfl (aa (vB (sEq r_3.1 (⟨#[]⟩:ByteArray))) ?_)))
    rcases aj h_7 with⟨hc_9,h_7⟩|⟨hc_9,h_7⟩
    ·refine ay rfl hc_9 wz (af (af (af (af (af (af (af (af (aa (vB true) (ah ?_))))))))))
     obtain rfl:=ae h_7
     exact cu
    ·refine ay rfl hc_9 wz (aH (gV (ak 0) 9 l_1) wa rfl (aH (gV (ak 0) 9 l_1) wa rfl (mo oK rfl wa (aH (vI (w64 ((l_1.length:Int)-1))) wa rfl ?_))))
     obtain ⟨_,hi_10,h_7⟩:=bind_some h_7
     refine uI lJ rfl rfl (qA hi_10) (mg hi_10) wa (aG kC rfl 8 rfl wa ?_)
     obtain ⟨e_11,hy_12,h_7⟩:=bind_some h_7
     refine Bw Alert.al 0 0 il ft sz9 ag9 rfl rfl hy_12 (vS e_11.Text) rfl wa (aH (vB (sNe e_11.Text (⟨#[]⟩:ByteArray))) wa rfl (aa (vB (sNe e_11.Text (⟨#[]⟩:ByteArray))) (ah ?_)))
     obtain rfl:=ae h_7
     exact cu
  ·rintro ⟨⟩ _ sl_ H_ hp_ hq_
   refine aP _ hp_ hq_ ?_
   rcases aj hF with⟨hc_13,hF⟩|⟨hc_13,hF⟩
   ·refine aC rfl hc_13 (ai (aa (gV (ak 0) 9 l_1) (aa (gV (ak 0) 9 l_1) (aa (vB false) (ah ?_)))))
    obtain rfl:=ae hF
    refine ax ?_
    exact⟨.inr rfl,[(gV (ak 0) 9 l_1),(vB false)],(ak 0),(Alert.al.exA 0 l_1),(Alert.al.exB 0 l_1),0,1,2,⟨rfl,⟨rfl,trivial⟩⟩,rfl,rfl,rfl,rfl,rfl,⟨Nat.le_of_ble_eq_true rfl,Nat.le_of_ble_eq_true rfl,Nat.le_of_ble_eq_true rfl⟩,by decide,by decide,by decide⟩
   ·refine aB rfl hc_13 (aA (ai (aa (gV (ak 0) 9 l_1) (aa (gV (ak 0) 9 l_1) (mo oK rfl wz (aa (vI (w64 ((l_1.length:Int)-1))) (aa (vS r_3.1) ?_)))))))
    obtain ⟨_,hi_14,hF⟩:=bind_some hF
    refine uI lJ rfl rfl (qA hi_14) (mg hi_14) wz (aG kC rfl 8 rfl wz ?_)
    obtain ⟨e_15,hy_16,hF⟩:=bind_some hF
    refine Dy Alert.al 0 il ft 0 sz9 rfl rfl hy_16 (⟨e_15.Id,e_15.Sender,e_15.Kind,e_15.Refs,e_15.At,e_15.Until,e_15.Weight,e_15.Areas,r_3.1⟩:Alert) (Alert.al.exA 0 l_1) (Alert.al.exB 0 l_1) rfl wz (mJ (b':=gB 1 eS (aY Alert.Refs (setLast l_1 (⟨e_15.Id,e_15.Sender,e_15.Kind,e_15.Refs,e_15.At,e_15.Until,e_15.Weight,e_15.Areas,r_3.1⟩:Alert)))) 1 rfl (congrArg (gB 1 eS) ((qp Alert.Refs hy_16).trans (iV Alert.Refs l_1 (⟨e_15.Id,e_15.Sender,e_15.Kind,e_15.Refs,e_15.At,e_15.Until,e_15.Weight,e_15.Areas,r_3.1⟩:Alert)).symm)) (mJ (b':=gB 4 Rect.enc (aY Alert.Areas (setLast l_1 (⟨e_15.Id,e_15.Sender,e_15.Kind,e_15.Refs,e_15.At,e_15.Until,e_15.Weight,e_15.Areas,r_3.1⟩:Alert)))) 2 rfl (congrArg (gB 4 Rect.enc) ((qp Alert.Areas hy_16).trans (iV Alert.Areas l_1 (⟨e_15.Id,e_15.Sender,e_15.Kind,e_15.Refs,e_15.At,e_15.Until,e_15.Weight,e_15.Areas,r_3.1⟩:Alert)).symm)) (fq (v':=(gV (ak 0) 9 (setLast l_1 (⟨e_15.Id,e_15.Sender,e_15.Kind,e_15.Refs,e_15.At,e_15.Until,e_15.Weight,e_15.Areas,r_3.1⟩:Alert)))) 0 rfl (cB (eG _ hy_16)) (fq (v':=(gV (ak 0) 9 (setLast l_1 (⟨e_15.Id,e_15.Sender,e_15.Kind,e_15.Refs,e_15.At,e_15.Until,e_15.Weight,e_15.Areas,r_3.1⟩:Alert)))) 40 rfl (cB (eG _ hy_16)) (fq (v':=(gV (ak 0) 9 (setLast l_1 (⟨e_15.Id,e_15.Sender,e_15.Kind,e_15.Refs,e_15.At,e_15.Until,e_15.Weight,e_15.Areas,r_3.1⟩:Alert)))) 41 rfl (cB (eG _ hy_16)) (ah (ai (aa (gV (ak 0) 9 (setLast l_1 (⟨e_15.Id,e_15.Sender,e_15.Kind,e_15.Refs,e_15.At,e_15.Until,e_15.Weight,e_15.Areas,r_3.1⟩:Alert))) (aa (gV (ak 0) 9 (setLast l_1 (⟨e_15.Id,e_15.Sender,e_15.Kind,e_15.Refs,e_15.At,e_15.Until,e_15.Weight,e_15.Areas,r_3.1⟩:Alert))) (aa (vB true) (ah ?_)))))))))))
    obtain rfl:=ae hF
    refine ax ?_
    exact⟨.inr rfl,[(gV (ak 0) 9 (setLast l_1 (⟨e_15.Id,e_15.Sender,e_15.Kind,e_15.Refs,e_15.At,e_15.Until,e_15.Weight,e_15.Areas,r_3.1⟩:Alert))),(vB true)],(ak 0),(Alert.al.exA 0 l_1),(Alert.al.exB 0 l_1),0,1,2,⟨rfl,⟨rfl,trivial⟩⟩,rfl,rfl,rfl,rfl,rfl,⟨Nat.le_of_ble_eq_true rfl,Nat.le_of_ble_eq_true rfl,Nat.le_of_ble_eq_true rfl⟩,by decide,by decide,by decide⟩
 ·refine aB rfl hc_5 (aA (ai (aa (vS line_2) ?_)))
  obtain ⟨r_17,hr_18,hF⟩:=bind_some hF
  refine aD (EG hr_18) rfl hb57 rfl rfl rfl rfl wz (aa (.tup [(vL eS r_17.1),(vB r_17.2)]) (aa (vL eS r_17.1) (aa (vB r_17.2) (aa (vL eS r_17.1) (aa (vB r_17.2) (ah (au (ai (aa (vB r_17.2) (aa (vB (!r_17.2)) (ah ?_)))))))))))
  rcases aj hF with⟨hc_19,hF⟩|⟨hc_19,hF⟩
  ·refine aC rfl hc_19 (ai (aa (gV (ak 0) 9 l_1) (aa (gV (ak 0) 9 l_1) (aa (vB false) (ah ?_)))))
   obtain rfl:=ae hF
   refine ax ?_
   exact⟨.inr rfl,[(gV (ak 0) 9 l_1),(vB false)],(ak 0),(Alert.al.exA 0 l_1),(Alert.al.exB 0 l_1),0,1,2,⟨rfl,⟨rfl,trivial⟩⟩,rfl,rfl,rfl,rfl,rfl,⟨Nat.le_of_ble_eq_true rfl,Nat.le_of_ble_eq_true rfl,Nat.le_of_ble_eq_true rfl⟩,by decide,by decide,by decide⟩
  ·refine aB rfl hc_19 (aA (au (au ?_)))
   obtain ⟨v_20,h_21,hF⟩:=bind_some hF
   refine aN [(0,(gV (ak 0) 9 l_1)),(8,(vL eS r_17.1)),(64,(vB v_20))] [((ak 0),Alert.al.box l_1 (Alert.al.exA 0 l_1) (Alert.al.exB 0 l_1)),((Alert.al.exA 0 l_1),gB 1 eS (aY Alert.Refs l_1)),((Alert.al.exB 0 l_1),gB 4 Rect.enc (aY Alert.Areas l_1))] ?_ ?_
   ·refine av (aa (vL eS r_17.1) ?_)
    obtain ⟨y_22,hy_23,h_21⟩:=bind_some h_21
    refine eD fO rfl rfl hy_23 rfl wz (bK sz9 ag9 rfl (vS y_22) rfl wz (aa (vB (sEq y_22 (⟨#[97,108,101,114,116]⟩:ByteArray))) ?_))
    rcases aj h_21 with⟨hc_24,h_21⟩|⟨hc_24,h_21⟩
    ·refine ay rfl hc_24 wz (aH (vL eS r_17.1) wa rfl (dz kQ rfl wa (aH (vB ((r_17.1.length:Int)==7)) wa rfl (aa (vB ((r_17.1.length:Int)==7)) (ah ?_)))))
     obtain rfl:=ae h_21
     exact cu
    ·refine ay rfl hc_24 wz (af (af (af (aa (vB false) (ah ?_)))))
     obtain rfl:=ae h_21
     exact cu
   ·rintro ⟨⟩ _ sl_ H_ hp_ hq_
    refine aP _ hp_ hq_ ?_
    rcases aj hF with⟨hc_25,hF⟩|⟨hc_25,hF⟩
    ·refine aC rfl hc_25 (au (bQ ?_))
     obtain ⟨r_26,hr_27,hF⟩:=bind_some hF
     refine aD (pJ hr_27) rfl hb25 rfl rfl rfl rfl wz (aa (vL eS r_17.1) ?_)
     obtain ⟨y_28,hy_29,hF⟩:=bind_some hF
     refine eD fO rfl rfl hy_29 rfl wz (bK sz9 ag9 rfl (vS y_28) rfl wz ?_)
     obtain ⟨r_30,hr_31,hF⟩:=bind_some hF
     refine aD (gz hr_31) rfl hb58 rfl rfl rfl rfl wz (aa (vI r_30) (ah (ai (aa (vL eS r_17.1) ?_))))
     obtain ⟨y_32,hy_33,hF⟩:=bind_some hF
     refine lH kQ sz9 (λ_=>rfl) rfl rfl hy_33 wz ?_
     obtain ⟨r_34,hr_35,hF⟩:=bind_some hF
     refine aD (rF hr_35) rfl hb59 rfl rfl rfl rfl wz (aa (.tup [(vL eI r_34.1),(vB r_34.2)]) (aa (vL eI r_34.1) (aa (vB r_34.2) (aa (vL eI r_34.1) (aa (vB r_34.2) (ah (au (au ?_))))))))
     obtain ⟨v_36,h_37,hF⟩:=bind_some hF
     refine aN [(0,(gV (ak 0) 9 l_1)),(8,(vL eS r_17.1)),(10,(vI r_30)),(11,(vL eI r_34.1)),(81,(vB v_36))] [((ak 0),Alert.al.box l_1 (Alert.al.exA 0 l_1) (Alert.al.exB 0 l_1)),((Alert.al.exA 0 l_1),gB 1 eS (aY Alert.Refs l_1)),((Alert.al.exB 0 l_1),gB 4 Rect.enc (aY Alert.Areas l_1))] ?_ ?_
     ·refine av (aa (vB r_34.2) (aa (vB (!r_34.2)) ?_))
      rcases aj h_37 with⟨hc_38,h_37⟩|⟨hc_38,h_37⟩
      ·refine ay rfl hc_38 wz (af (af (aa (vB true) (ah ?_))))
       obtain rfl:=ae h_37
       exact cu
      ·refine ay rfl hc_38 wz (aH (vI r_30) wa rfl (aH (vB (decide (r_30<1))) wa rfl (aa (vB (decide (r_30<1))) (ah ?_))))
       obtain rfl:=ae h_37
       exact cu
     ·rintro ⟨⟩ _ sl_ H_ hp_ hq_
      refine aP _ hp_ hq_ ?_
      rcases aj hF with⟨hc_39,hF⟩|⟨hc_39,hF⟩
      ·refine aC rfl hc_39 (ai (aa (gV (ak 0) 9 l_1) (aa (gV (ak 0) 9 l_1) (aa (vB false) (ah ?_)))))
       obtain rfl:=ae hF
       refine ax ?_
       exact⟨.inr rfl,[(gV (ak 0) 9 l_1),(vB false)],(ak 0),(Alert.al.exA 0 l_1),(Alert.al.exB 0 l_1),0,1,2,⟨rfl,⟨rfl,trivial⟩⟩,rfl,rfl,rfl,rfl,rfl,⟨Nat.le_of_ble_eq_true rfl,Nat.le_of_ble_eq_true rfl,Nat.le_of_ble_eq_true rfl⟩,by decide,by decide,by decide⟩
      ·refine aB rfl hc_39 (aA (au (EY Alert.al 0 1 2 rfl rfl rfl (by decide) (bQ (aa (gV (ak 0) 9 l_1) (aa (vL eS r_17.1) ?_))))))
       obtain ⟨y_40,hy_41,hF⟩:=bind_some hF
       refine eD fO rfl rfl hy_41 rfl wz (bK sz9 ag9 rfl (vS y_40) rfl wz (aa (vL eS r_17.1) ?_))
       obtain ⟨y_42,hy_43,hF⟩:=bind_some hF
       refine eD fO rfl rfl hy_43 rfl wz (bK sz9 ag9 rfl (vS y_42) rfl wz (aa (vI r_30) (aa (vL eI r_34.1) ?_)))
       obtain ⟨y_44,hy_45,hF⟩:=bind_some hF
       refine eD jZ rfl rfl hy_45 rfl wz (bK sz3 ag3 rfl (vI y_44) rfl wz (aa (vL eI r_34.1) ?_))
       obtain ⟨y_46,hy_47,hF⟩:=bind_some hF
       refine eD jZ rfl rfl hy_47 rfl wz (bK sz3 ag3 rfl (vI y_46) rfl wz (aa (vL eI r_34.1) ?_))
       obtain ⟨y_48,hy_49,hF⟩:=bind_some hF
       refine eD jZ rfl rfl hy_49 rfl wz (bK sz3 ag3 rfl (vI y_48) rfl wz (aH (.agg [(vS y_40),(vS y_42),(vI r_30),.nil,(vI y_44),(vI y_46),(vI y_48),.nil,(vS (⟨#[]⟩:ByteArray))]) wz (by kernel_rfl) (Lh [Alert.encN (⟨y_40,y_42,r_30,[],y_44,y_46,y_48,[],(⟨#[]⟩:ByteArray)⟩:Alert)] lJ IG rfl rfl rfl rfl wz ?_)))
       obtain ⟨a_50,hz_51,hF⟩:=bind_some hF
       refine Ll Alert.al (i:=0) (a:=(⟨y_40,y_42,r_30,[],y_44,y_46,y_48,[],(⟨#[]⟩:ByteArray)⟩:Alert)) rfl 19 (.inr (by kernel_rfl)) (λ_ _ ag=>trivial) Gg Gg iT z40 rfl by40 (by decide) rfl rfl rfl hz_51 wz (λn_52=>aa (gV n_52 9 a_50) (aa (vB true) (ah (LX Alert.al (l:=l_1) (a:=(⟨y_40,y_42,r_30,[],y_44,y_46,y_48,[],(⟨#[]⟩:ByteArray)⟩:Alert)) (Alert.al.exA 0 l_1) (Alert.al.exB 0 l_1) 0 rfl rfl rfl hz_51 (DT (b':=gB 1 eS (aY Alert.Refs a_50)) 1 rfl (zX hz_51 rfl) (DT (b':=gB 4 Rect.enc (aY Alert.Areas a_50)) 2 rfl (zX hz_51 rfl) ?_))))))
       obtain rfl:=ae hF
       refine ax ?_
       exact⟨.inr rfl,[(gV n_52 9 a_50),(vB true)],n_52,(Alert.al.exA 0 l_1),(Alert.al.exB 0 l_1),0,1,2,⟨rfl,⟨rfl,trivial⟩⟩,rfl,rfl,rfl,rfl,rfl,⟨Nat.le_of_ble_eq_true rfl,Nat.le_of_ble_eq_true rfl,Nat.le_of_ble_eq_true rfl⟩,by decide,by decide,by decide⟩
    ·refine aB rfl hc_25 (aA (au (au ?_)))
     obtain ⟨v_53,h_54,hF⟩:=bind_some hF
     refine aN [(0,(gV (ak 0) 9 l_1)),(8,(vL eS r_17.1)),(115,(vB v_53))] [((ak 0),Alert.al.box l_1 (Alert.al.exA 0 l_1) (Alert.al.exB 0 l_1)),((Alert.al.exA 0 l_1),gB 1 eS (aY Alert.Refs l_1)),((Alert.al.exB 0 l_1),gB 4 Rect.enc (aY Alert.Areas l_1))] ?_ ?_
     ·refine av (aa (gV (ak 0) 9 l_1) (mo oK rfl wz (aa (vB ((l_1.length:Int)==0)) ?_)))
      rcases aj h_54 with⟨hc_55,h_54⟩|⟨hc_55,h_54⟩
      ·refine ay rfl hc_55 wz (af (af (af (af (af (af (af (af (aa (vB true) (ah ?_))))))))))
       obtain rfl:=ae h_54
       exact cu
      ·refine ay rfl hc_55 wz (aH (gV (ak 0) 9 l_1) wa rfl (aH (gV (ak 0) 9 l_1) wa rfl (mo oK rfl wa (aH (vI (w64 ((l_1.length:Int)-1))) wa rfl ?_))))
       obtain ⟨_,hi_56,h_54⟩:=bind_some h_54
       refine uI lJ rfl rfl (qA hi_56) (mg hi_56) wa (aG kC rfl 8 rfl wa ?_)
       obtain ⟨e_57,hy_58,h_54⟩:=bind_some h_54
       refine Bw Alert.al 0 0 il ft sz9 ag9 rfl rfl hy_58 (vS e_57.Text) rfl wa (aH (vB (sNe e_57.Text (⟨#[]⟩:ByteArray))) wa rfl (aa (vB (sNe e_57.Text (⟨#[]⟩:ByteArray))) (ah ?_)))
       obtain rfl:=ae h_54
       exact cu
     ·rintro ⟨⟩ _ sl_ H_ hp_ hq_
      refine aP _ hp_ hq_ ?_
      rcases aj hF with⟨hc_59,hF⟩|⟨hc_59,hF⟩
      ·refine aC rfl hc_59 (ai (aa (gV (ak 0) 9 l_1) (aa (gV (ak 0) 9 l_1) (aa (vB false) (ah ?_)))))
       obtain rfl:=ae hF
       refine ax ?_
       exact⟨.inr rfl,[(gV (ak 0) 9 l_1),(vB false)],(ak 0),(Alert.al.exA 0 l_1),(Alert.al.exB 0 l_1),0,1,2,⟨rfl,⟨rfl,trivial⟩⟩,rfl,rfl,rfl,rfl,rfl,⟨Nat.le_of_ble_eq_true rfl,Nat.le_of_ble_eq_true rfl,Nat.le_of_ble_eq_true rfl⟩,by decide,by decide,by decide⟩
      ·refine aB rfl hc_59 (aA (ai (aa (gV (ak 0) 9 l_1) (aa (gV (ak 0) 9 l_1) (mo oK rfl wz (aa (vI (w64 ((l_1.length:Int)-1))) ?_))))))
       obtain ⟨_,hi_60,hF⟩:=bind_some hF
       refine uI lJ rfl rfl (qA hi_60) (mg hi_60) wz (aa (.ref (ak 0) (0+((w64 ((l_1.length:Int)-1))).toNat) 0) (ah (au (aR (au ?_)))))
       obtain ⟨v_61,h_62,hF⟩:=bind_some hF
       refine aN [(0,(gV (ak 0) 9 l_1)),(8,(vL eS r_17.1)),(13,(.ref (ak 0) (0+((w64 ((l_1.length:Int)-1))).toNat) 0)),(122,(vB v_61))] [((ak 0),Alert.al.box l_1 (Alert.al.exA 0 l_1) (Alert.al.exB 0 l_1)),((Alert.al.exA 0 l_1),gB 1 eS (aY Alert.Refs l_1)),((Alert.al.exB 0 l_1),gB 4 Rect.enc (aY Alert.Areas l_1))] ?_ ?_
       ·refine av (aa (vL eS r_17.1) ?_)
        obtain ⟨y_63,hy_64,h_62⟩:=bind_some h_62
        refine eD fO rfl rfl hy_64 rfl wz (bK sz9 ag9 rfl (vS y_63) rfl wz (aa (vB (sEq y_63 (⟨#[114,101,102]⟩:ByteArray))) ?_))
        rcases aj h_62 with⟨hc_65,h_62⟩|⟨hc_65,h_62⟩
        ·refine ay rfl hc_65 wz (aH (vL eS r_17.1) wa rfl (dz kQ rfl wa (aH (vB ((r_17.1.length:Int)==2)) wa rfl (aa (vB ((r_17.1.length:Int)==2)) ?_))))
         rcases aj h_62 with⟨hc_66,h_62⟩|⟨hc_66,h_62⟩
         ·refine ay rfl hc_66 wz (aH (.ref (ak 0) (0+((w64 ((l_1.length:Int)-1))).toNat) 0) wa rfl (aH (.ref (ak 0) (0+((w64 ((l_1.length:Int)-1))).toNat) 0) wa rfl (aG jE rfl 7 rfl wa ?_)))
          obtain ⟨e_67,hy_68,h_62⟩:=bind_some h_62
          refine Bw Alert.al 0 0 il ft rR xZ rfl rfl hy_68 (gV (Alert.al.exB 0 l_1) 4 (aY Alert.Areas l_1)) rfl wa (mo Cx rfl wa (aH (vB (((aY Alert.Areas l_1).length:Int)==0)) wa rfl (aa (vB (((aY Alert.Areas l_1).length:Int)==0)) (aa (vB (((aY Alert.Areas l_1).length:Int)==0)) (ah ?_)))))
          obtain rfl:=ae h_62
          exact cu
         ·refine ay rfl hc_66 wz (af (af (af (af (af (af (aa (vB false) (aa (vB false) (ah ?_)))))))))
          obtain rfl:=ae h_62
          exact cu
        ·refine ay rfl hc_65 wz (af (af (af (aa (vB false) (aa (vB false) (af (af (af (af (af (af (aa (vB false) (aa (vB false) (ah ?_))))))))))))))
         obtain rfl:=ae h_62
         exact cu
       ·rintro ⟨⟩ _ sl_ H_ hp_ hq_
        refine aP _ hp_ hq_ ?_
        rcases aj hF with⟨hc_69,hF⟩|⟨hc_69,hF⟩
        ·refine aC rfl hc_69 (au (bQ (aa (.ref (ak 0) (0+((w64 ((l_1.length:Int)-1))).toNat) 0) (aa (.ref (ak 0) (0+((w64 ((l_1.length:Int)-1))).toNat) 0) (aa (.ref (ak 0) (0+((w64 ((l_1.length:Int)-1))).toNat) 0) (aG iK rfl 3 rfl wz ?_))))))
         obtain ⟨e_70,hy_71,hF⟩:=bind_some hF
         refine Bw Alert.al 4 0 (.inr (by kernel_rfl)) (λ_ _ ag=>trivial) oI uP rfl rfl hy_71 (gV (Alert.al.exA 0 l_1) 1 (aY Alert.Refs l_1)) rfl wz (aa (vL eS r_17.1) ?_)
         obtain ⟨y_72,hy_73,hF⟩:=bind_some hF
         refine eD fO rfl rfl hy_73 rfl wz (bK sz9 ag9 rfl (vS y_72) rfl wz (di (([y_72]:List ByteArray).map eS) fO nE rfl rfl rfl rfl rfl wz ?_))
         obtain ⟨a_74,hz_75,hF⟩:=bind_some hF
         refine lS 9 (.inr (by kernel_rfl)) (λ_ _ ag=>⟨.inr (.inr (by kernel_rfl)),trivial⟩) (i:=1) Cu Cu sz9 z9 rfl (by decide) by9 (by decide) (λ_=>rfl) rfl rfl rfl hz_75 wz (λn_76=>aa (.ref (ak 0) (0+((w64 ((l_1.length:Int)-1))).toNat) 0) (aG iK rfl 3 rfl wz ?_))
         obtain ⟨e_77,hy_78,hF⟩:=bind_some hF
         refine Dy Alert.al 12 (.inr (by kernel_rfl)) (λ_ _ ag=>⟨.inr (.inr (by kernel_rfl)),⟨.inr (.inr (by kernel_rfl)),trivial⟩⟩) 0 oI rfl rfl hy_78 (⟨e_77.Id,e_77.Sender,e_77.Kind,a_74,e_77.At,e_77.Until,e_77.Weight,e_77.Areas,e_77.Text⟩:Alert) n_76 (Alert.al.exB 0 l_1) (xJ rfl) wz (mJ (b':=gB 1 eS (aY Alert.Refs (setLast l_1 (⟨e_77.Id,e_77.Sender,e_77.Kind,a_74,e_77.At,e_77.Until,e_77.Weight,e_77.Areas,e_77.Text⟩:Alert)))) 1 rfl (congrArg (gB 1 eS) (iV Alert.Refs l_1 (⟨e_77.Id,e_77.Sender,e_77.Kind,a_74,e_77.At,e_77.Until,e_77.Weight,e_77.Areas,e_77.Text⟩:Alert)).symm) (mJ (b':=gB 4 Rect.enc (aY Alert.Areas (setLast l_1 (⟨e_77.Id,e_77.Sender,e_77.Kind,a_74,e_77.At,e_77.Until,e_77.Weight,e_77.Areas,e_77.Text⟩:Alert)))) 2 rfl (congrArg (gB 4 Rect.enc) ((qp Alert.Areas hy_78).trans (iV Alert.Areas l_1 (⟨e_77.Id,e_77.Sender,e_77.Kind,a_74,e_77.At,e_77.Until,e_77.Weight,e_77.Areas,e_77.Text⟩:Alert)).symm)) (fq (v':=(gV (ak 0) 9 (setLast l_1 (⟨e_77.Id,e_77.Sender,e_77.Kind,a_74,e_77.At,e_77.Until,e_77.Weight,e_77.Areas,e_77.Text⟩:Alert)))) 0 rfl (cB (eG _ hy_78)) (ah (ai (aa (gV (ak 0) 9 (setLast l_1 (⟨e_77.Id,e_77.Sender,e_77.Kind,a_74,e_77.At,e_77.Until,e_77.Weight,e_77.Areas,e_77.Text⟩:Alert))) (aa (gV (ak 0) 9 (setLast l_1 (⟨e_77.Id,e_77.Sender,e_77.Kind,a_74,e_77.At,e_77.Until,e_77.Weight,e_77.Areas,e_77.Text⟩:Alert))) (aa (vB true) (ah ?_)))))))))
         obtain rfl:=ae hF
         refine ax ?_
         exact⟨.inr rfl,[(gV (ak 0) 9 (setLast l_1 (⟨e_77.Id,e_77.Sender,e_77.Kind,a_74,e_77.At,e_77.Until,e_77.Weight,e_77.Areas,e_77.Text⟩:Alert))),(vB true)],(ak 0),n_76,(Alert.al.exB 0 l_1),0,1,2,⟨rfl,⟨rfl,trivial⟩⟩,rfl,rfl,rfl,rfl,rfl,⟨Nat.le_of_ble_eq_true rfl,Nat.le_of_ble_eq_true rfl,Nat.le_of_ble_eq_true rfl⟩,by decide,by decide,by decide⟩
        ·refine aB rfl hc_69 (au ?_)
         obtain ⟨v_79,h_80,hF⟩:=bind_some hF
         refine aN [(0,(gV (ak 0) 9 l_1)),(8,(vL eS r_17.1)),(13,(.ref (ak 0) (0+((w64 ((l_1.length:Int)-1))).toNat) 0)),(153,(vB v_79))] [((ak 0),Alert.al.box l_1 (Alert.al.exA 0 l_1) (Alert.al.exB 0 l_1)),((Alert.al.exA 0 l_1),gB 1 eS (aY Alert.Refs l_1)),((Alert.al.exB 0 l_1),gB 4 Rect.enc (aY Alert.Areas l_1))] ?_ ?_
         ·refine av (aa (vL eS r_17.1) ?_)
          obtain ⟨y_81,hy_82,h_80⟩:=bind_some h_80
          refine eD fO rfl rfl hy_82 rfl wz (bK sz9 ag9 rfl (vS y_81) rfl wz (aa (vB (sEq y_81 (⟨#[97,114,101,97]⟩:ByteArray))) ?_))
          rcases aj h_80 with⟨hc_83,h_80⟩|⟨hc_83,h_80⟩
          ·refine ay rfl hc_83 wz (aH (vL eS r_17.1) wa rfl (dz kQ rfl wa (aH (vB ((r_17.1.length:Int)==5)) wa rfl (aa (vB ((r_17.1.length:Int)==5)) (aa (vB ((r_17.1.length:Int)==5)) (ah ?_))))))
           obtain rfl:=ae h_80
           exact cu
          ·refine ay rfl hc_83 wz (af (af (af (aa (vB false) (aa (vB false) (ah ?_))))))
           obtain rfl:=ae h_80
           exact cu
         ·rintro ⟨⟩ _ sl_ H_ hp_ hq_
          refine aP _ hp_ hq_ ?_
          rcases aj hF with⟨hc_84,hF⟩|⟨hc_84,hF⟩
          ·refine aC rfl hc_84 (ai (aa (vL eS r_17.1) ?_))
           obtain ⟨y_85,hy_86,hF⟩:=bind_some hF
           refine lH kQ sz9 (λ_=>rfl) rfl rfl hy_86 wz ?_
           obtain ⟨r_87,hr_88,hF⟩:=bind_some hF
           refine aD (rF hr_88) rfl hb59 rfl rfl rfl rfl wz (aa (.tup [(vL eI r_87.1),(vB r_87.2)]) (aa (vL eI r_87.1) (aa (vB r_87.2) (aa (vL eI r_87.1) (aa (vB r_87.2) (ah (au (ai (aa (vB r_87.2) (aa (vB (!r_87.2)) (ah ?_)))))))))))
           rcases aj hF with⟨hc_89,hF⟩|⟨hc_89,hF⟩
           ·refine aC rfl hc_89 (ai (aa (gV (ak 0) 9 l_1) (aa (gV (ak 0) 9 l_1) (aa (vB false) (ah ?_)))))
            obtain rfl:=ae hF
            refine ax ?_
            exact⟨.inr rfl,[(gV (ak 0) 9 l_1),(vB false)],(ak 0),(Alert.al.exA 0 l_1),(Alert.al.exB 0 l_1),0,1,2,⟨rfl,⟨rfl,trivial⟩⟩,rfl,rfl,rfl,rfl,rfl,⟨Nat.le_of_ble_eq_true rfl,Nat.le_of_ble_eq_true rfl,Nat.le_of_ble_eq_true rfl⟩,by decide,by decide,by decide⟩
           ·refine aB rfl hc_89 (aA (au (bQ (aa (.ref (ak 0) (0+((w64 ((l_1.length:Int)-1))).toNat) 0) (aa (.ref (ak 0) (0+((w64 ((l_1.length:Int)-1))).toNat) 0) (aa (.ref (ak 0) (0+((w64 ((l_1.length:Int)-1))).toNat) 0) (aG jE rfl 7 rfl wz ?_)))))))
            obtain ⟨e_90,hy_91,hF⟩:=bind_some hF
            refine Bw Alert.al 4 0 (.inr (by kernel_rfl)) (λ_ _ ag=>trivial) rR xZ rfl rfl hy_91 (gV (Alert.al.exB 0 l_1) 4 (aY Alert.Areas l_1)) rfl wz (aa (vL eI r_87.1) ?_)
            obtain ⟨y_92,hy_93,hF⟩:=bind_some hF
            refine eD jZ rfl rfl hy_93 rfl wz (bK sz3 ag3 rfl (vI y_92) rfl wz (aa (vL eI r_87.1) ?_))
            obtain ⟨y_94,hy_95,hF⟩:=bind_some hF
            refine eD jZ rfl rfl hy_95 rfl wz (bK sz3 ag3 rfl (vI y_94) rfl wz (aa (vL eI r_87.1) ?_))
            obtain ⟨y_96,hy_97,hF⟩:=bind_some hF
            refine eD jZ rfl rfl hy_97 rfl wz (bK sz3 ag3 rfl (vI y_96) rfl wz (aa (vL eI r_87.1) ?_))
            obtain ⟨y_98,hy_99,hF⟩:=bind_some hF
            refine eD jZ rfl rfl hy_99 rfl wz (bK sz3 ag3 rfl (vI y_98) rfl wz (aH (.d (.agg (Rect.enc (⟨y_92,y_94,y_96,y_98⟩:Rect)))) wz (by kernel_rfl) (di (([(⟨y_92,y_94,y_96,y_98⟩:Rect)]:List Rect).map Rect.enc) Au J2 rfl rfl rfl rfl rfl wz ?_)))
            obtain ⟨a_100,hz_101,hF⟩:=bind_some hF
            refine lS 19 (.inr (by kernel_rfl)) (λ_ _ ag=>⟨.inr (.inr (by kernel_rfl)),trivial⟩) (i:=2) Ci Ci nW z64 rfl (by decide) MV (by decide) (λ_=>rfl) rfl rfl rfl hz_101 wz (λn_102=>aa (.ref (ak 0) (0+((w64 ((l_1.length:Int)-1))).toNat) 0) (aG jE rfl 7 rfl wz ?_))
            obtain ⟨e_103,hy_104,hF⟩:=bind_some hF
            refine Dy Alert.al 22 (.inr (by kernel_rfl)) (λ_ _ ag=>⟨.inr (.inr (by kernel_rfl)),⟨.inr (.inr (by kernel_rfl)),trivial⟩⟩) 0 rR rfl rfl hy_104 (⟨e_103.Id,e_103.Sender,e_103.Kind,e_103.Refs,e_103.At,e_103.Until,e_103.Weight,a_100,e_103.Text⟩:Alert) (Alert.al.exA 0 l_1) n_102 (xJ rfl) wz (mJ (b':=gB 1 eS (aY Alert.Refs (setLast l_1 (⟨e_103.Id,e_103.Sender,e_103.Kind,e_103.Refs,e_103.At,e_103.Until,e_103.Weight,a_100,e_103.Text⟩:Alert)))) 1 rfl (congrArg (gB 1 eS) ((qp Alert.Refs hy_104).trans (iV Alert.Refs l_1 (⟨e_103.Id,e_103.Sender,e_103.Kind,e_103.Refs,e_103.At,e_103.Until,e_103.Weight,a_100,e_103.Text⟩:Alert)).symm)) (mJ (b':=gB 4 Rect.enc (aY Alert.Areas (setLast l_1 (⟨e_103.Id,e_103.Sender,e_103.Kind,e_103.Refs,e_103.At,e_103.Until,e_103.Weight,a_100,e_103.Text⟩:Alert)))) 2 rfl (congrArg (gB 4 Rect.enc) (iV Alert.Areas l_1 (⟨e_103.Id,e_103.Sender,e_103.Kind,e_103.Refs,e_103.At,e_103.Until,e_103.Weight,a_100,e_103.Text⟩:Alert)).symm) (fq (v':=(gV (ak 0) 9 (setLast l_1 (⟨e_103.Id,e_103.Sender,e_103.Kind,e_103.Refs,e_103.At,e_103.Until,e_103.Weight,a_100,e_103.Text⟩:Alert)))) 0 rfl (cB (eG _ hy_104)) (ah (aP (H0:=([((ak 0),Alert.al.box (setLast l_1 (⟨e_103.Id,e_103.Sender,e_103.Kind,e_103.Refs,e_103.At,e_103.Until,e_103.Weight,a_100,e_103.Text⟩:Alert)) (Alert.al.exA 0 l_1) n_102),((Alert.al.exA 0 l_1),gB 1 eS (aY Alert.Refs (setLast l_1 (⟨e_103.Id,e_103.Sender,e_103.Kind,e_103.Refs,e_103.At,e_103.Until,e_103.Weight,a_100,e_103.Text⟩:Alert)))),(n_102,gB 4 Rect.enc (aY Alert.Areas (setLast l_1 (⟨e_103.Id,e_103.Sender,e_103.Kind,e_103.Refs,e_103.At,e_103.Until,e_103.Weight,a_100,e_103.Text⟩:Alert))))]:Hp)) ([(0,(gV (ak 0) 9 (setLast l_1 (⟨e_103.Id,e_103.Sender,e_103.Kind,e_103.Refs,e_103.At,e_103.Until,e_103.Weight,a_100,e_103.Text⟩:Alert))))]:SL_) (by kernel_rfl) (qb (by kernel_rfl)) (ai (aa (gV (ak 0) 9 (setLast l_1 (⟨e_103.Id,e_103.Sender,e_103.Kind,e_103.Refs,e_103.At,e_103.Until,e_103.Weight,a_100,e_103.Text⟩:Alert))) (aa (gV (ak 0) 9 (setLast l_1 (⟨e_103.Id,e_103.Sender,e_103.Kind,e_103.Refs,e_103.At,e_103.Until,e_103.Weight,a_100,e_103.Text⟩:Alert))) (aa (vB true) (ah ?_))))))))))
            obtain rfl:=ae hF
            refine ax ?_
            exact⟨.inr rfl,[(gV (ak 0) 9 (setLast l_1 (⟨e_103.Id,e_103.Sender,e_103.Kind,e_103.Refs,e_103.At,e_103.Until,e_103.Weight,a_100,e_103.Text⟩:Alert))),(vB true)],(ak 0),(Alert.al.exA 0 l_1),n_102,0,1,2,⟨rfl,⟨rfl,trivial⟩⟩,rfl,rfl,rfl,rfl,rfl,⟨Nat.le_of_ble_eq_true rfl,Nat.le_of_ble_eq_true rfl,Nat.le_of_ble_eq_true rfl⟩,by decide,by decide,by decide⟩
          ·refine aB rfl hc_84 (aA (ai (aa (gV (ak 0) 9 l_1) (aa (gV (ak 0) 9 l_1) (aa (vB false) (ah ?_))))))
           obtain rfl:=ae hF
           refine ax ?_
           exact⟨.inr rfl,[(gV (ak 0) 9 l_1),(vB false)],(ak 0),(Alert.al.exA 0 l_1),(Alert.al.exB 0 l_1),0,1,2,⟨rfl,⟨rfl,trivial⟩⟩,rfl,rfl,rfl,rfl,rfl,⟨Nat.le_of_ble_eq_true rfl,Nat.le_of_ble_eq_true rfl,Nat.le_of_ble_eq_true rfl⟩,by decide,by decide,by decide⟩
theorem Cz {text_1:ByteArray} {r:(List Alert)×Int×Int} (hF:kv text_1=some r) :
  FnM Tryz.prog 9 [(vS text_1)] [] (.tup [(vL Alert.enc r.1),(vI r.2.1),(vI r.2.2)]) []:=by
 refine FnM.of_wH ⟨Tryz.prog,56,[],[]⟩ rfl Tryz.func9 rfl rfl (lb_ rfl) (by kernel_rfl) ?_
 unfold kv at hF
 refine ai (aa .nil (aa (vI 0) (aa (vI 0) (ah (au (ai (aa (vS text_1) (iU un9 rfl wz (aa (vB (decide ((text_1.size:Int)>200000))) (ah ?_))))))))))
 rcases aj hF with⟨hc_2,hF⟩|⟨hc_2,hF⟩
 ·refine aC rfl hc_2 (ai (aa .nil (aa (vI 0) (aa (vI 2) (ah ?_)))))
  obtain rfl:=ae hF
  exact ax (aK [.nil,(vI 0),(vI 2)] ⟨rfl,⟨rfl,⟨rfl,trivial⟩⟩⟩)
 ·refine aB rfl hc_2 (aA (ai (aa (vS text_1) ?_)))
  obtain ⟨r_3,hr_4,hF⟩:=bind_some hF
  refine aD (ET hr_4) rfl hb32 rfl rfl rfl rfl wz (aa (.tup [(vL eS r_3.1),(vB r_3.2)]) (aa (vL eS r_3.1) (aa (vB r_3.2) (aa (vL eS r_3.1) (aa (vB r_3.2) (ah (ai (aa .nil (ah (au (ai (aa (vL eS r_3.1) (dz kQ rfl wz (aa (vI 0) (ah (ni (λn_11=>ni (λn_12=>ni (λn_13 => ?_)))))))))))))))))))
  obtain ⟨o_22,hj_23,hF⟩:=bind_some hF
  obtain ⟨hn_9,hj_23⟩:=bu hj_23
  refine iZ (σ:=(List Alert)) (N:=Nm×Nm×Nm) (λp=>(λ(s_10:List Alert) (n_17:Nm) (n_18:Nm) (n_19:Nm)=>([(7,(gV n_17 9 s_10))]:SL_)) p.1 p.2.1 p.2.2.1 p.2.2.2) (λp=>(λ(s_10:List Alert) (n_17:Nm) (n_18:Nm) (n_19:Nm)=>([(n_17,Alert.al.box s_10 n_18 n_19),(n_18,gB 1 eS (aY Alert.Refs s_10)),(n_19,gB 4 Rect.enc (aY Alert.Areas s_10))]:Hp)) p.1 p.2.1 p.2.2.1 p.2.2.2) (λ(k_5:Nat)=>(λp=>(λ(s_10:List Alert) (n_17:Nm) (n_18:Nm) (n_19:Nm)=>([(5,(vL eS r_3.1)),(6,(vB r_3.2)),(7,(gV n_17 9 s_10)),(21,(vL eS r_3.1)),(22,(vI (r_3.1.length:Int))),(23,(vI (k_5:Int)))]:SL_)) p.1 p.2.1 p.2.2.1 p.2.2.2)) (λk x s=>eO r_3 k x s) o_22 r_3.1 (([]:List Alert),n_11,n_12,n_13) hj_23 rfl (aM rfl) ?_ ?_
  ·rintro ⟨k_5,l_6,s_10,n_17,n_18,n_19⟩ ⟨hL_21,hD_8⟩
   dsimp only at hL_21 hD_8
   cases l_6 with
   | nil =>
    obtain rfl:=ae hL_21
    refine ai (aa (vB (decide ((k_5:Int)<(r_3.1.length:Int)))) (ah ?_))
    refine au (aB rfl (drop_nil hD_8) (bO ?_))
    exact bD (s_10,n_17,n_18,n_19) rfl rfl (aM rfl)
   | cons x_7 l_6 =>
    obtain ⟨c_,hc_20,hL_21⟩:=bind_some hL_21
    refine ai (aa (vB (decide ((k_5:Int)<(r_3.1.length:Int)))) (ah ?_))
    refine au (aC rfl (bL hD_8) (aA ?_))
    unfold eO at hc_20
    refine au (aR (ai (aa (vI (k_5:Int)) (eD fO rfl rfl (dh hD_8) rfl wz (bK sz9 ag9 rfl (vS x_7) rfl wz (aa (vI (k_5:Int)) (aa (vS x_7) (ah (ai (aa (gV n_17 9 s_10) (aa (vS x_7) ?_)))))))))))
    obtain ⟨r_24,hr_25,hc_20⟩:=bind_some hc_20
    refine A8 Alert.al [] 0 1 2 (xS hr_25) (λ_ _=>rfl) (λ_ _ h_=>al_ro h_) (λ_=>rfl) (λ_ _=>rfl) (λ_ _ _=>rfl) (cd_fn rfl hb33) rfl rfl rfl rfl rfl (by decide) (λ_ _ _=>rfl) (λ_ _ _=>rfl) (λ_ h_=>al_n h_) (λ_ _ h_=>al_a h_) (λ_ h_ _=>al_o h_) wz (λn_26 n_27 n_28=>Lx (H0:=([(n_17,none),(n_18,none),(n_19,none),(n_26,Alert.al.box r_24.1 n_27 n_28),(n_27,gB 1 eS (aY Alert.Refs r_24.1)),(n_28,gB 4 Rect.enc (aY Alert.Areas r_24.1))]:Hp)) rfl (fq (v':=(.tup [(gV n_26 9 r_24.1),(vB r_24.2)])) 31 rfl rfl (aa (.tup [(gV n_26 9 r_24.1),(vB r_24.2)]) (aa (gV n_26 9 r_24.1) (aa (vB r_24.2) (aa (gV n_26 9 r_24.1) (aa (vB r_24.2) (ah (au (au ?_))))))))))
    obtain ⟨v_29,h_30,hc_20⟩:=bind_some hc_20
    refine aN [(5,(vL eS r_3.1)),(6,(vB r_3.2)),(8,(vI (k_5:Int))),(10,(gV n_26 9 r_24.1)),(21,(vL eS r_3.1)),(22,(vI (r_3.1.length:Int))),(23,(vI (k_5:Int))),(46,(vB v_29))] [(n_17,none),(n_18,none),(n_19,none),(n_26,Alert.al.box r_24.1 n_27 n_28),(n_27,gB 1 eS (aY Alert.Refs r_24.1)),(n_28,gB 4 Rect.enc (aY Alert.Areas r_24.1))] ?_ ?_
    ·refine av (aa (vB r_24.2) (aa (vB (!r_24.2)) ?_))
     rcases aj h_30 with⟨hc_31,h_30⟩|⟨hc_31,h_30⟩
     ·refine ay rfl hc_31 wz (af (af (af (aX (wn rfl rfl) (aX (wn rfl rfl) (aX (wn rfl rfl) (aX (wn rfl rfl) (aX (wn rfl rfl) (af (aa (vB true) (ah ?_)))))))))))
      obtain rfl:=ae h_30
      exact cu
     ·refine ay rfl hc_31 wz (aH (vB r_3.2) wa rfl (aH (vB (!r_3.2)) wa rfl ?_))
      rcases aj h_30 with⟨hc_32,h_30⟩|⟨hc_32,h_30⟩
      ·refine ay rfl hc_32 wa (aH (vI (k_5:Int)) wa rfl (aH (vL eS r_3.1) wa rfl (dz kQ rfl wa (aH (vI (w64 ((r_3.1.length:Int)-1))) wa rfl (aH (vB ((k_5:Int)==(w64 ((r_3.1.length:Int)-1)))) wa rfl (aH (vB ((k_5:Int)==(w64 ((r_3.1.length:Int)-1)))) wa rfl (aa (vB ((k_5:Int)==(w64 ((r_3.1.length:Int)-1)))) (ah ?_))))))))
       obtain rfl:=ae h_30
       exact cu
      ·refine ay rfl hc_32 wa (af (af (af (af (af (aH (vB false) wa rfl (aa (vB false) (ah ?_))))))))
       obtain rfl:=ae h_30
       exact cu
    ·rintro ⟨⟩ _ sl_ H_ hp_ hq_
     refine aP _ hp_ hq_ ?_
     rcases aj hc_20 with⟨hc_33,hc_20⟩|⟨hc_33,hc_20⟩
     ·refine aC rfl hc_33 (ai (aa (vI (k_5:Int)) (aa .nil (aa (vI (k_5:Int)) (aa (vI 9) (ah ?_))))))
      obtain rfl:=ae hc_20
      obtain rfl:=ae hL_21
      obtain rfl:=ae hF
      exact ax (aK [.nil,(vI (k_5:Int)),(vI 9)] ⟨rfl,⟨rfl,⟨rfl,trivial⟩⟩⟩)
     ·refine aB rfl hc_33 (aA (av (aa (gV n_26 9 r_24.1) (aa (gV n_26 9 r_24.1) (ah (av (gY (cZ hD_8 hn_9) wz rfl (aa (vI ((k_5+1:Nat):Int)) (ah ?_)))))))))
      obtain rfl:=ae hc_20
      exact bN (k_5+1,l_6,r_24.1,n_26,n_27,n_28) ⟨hL_21,bn hD_8⟩ (ls_ _) rfl (Mw [3,4,5] (by decide) rfl)
  ·rintro ⟨s_10,n_17,n_18,n_19⟩ ho_ sl_ H_ hp_ hq_
   subst ho_
   refine aP _ hp_ hq_ (au (au (EY Alert.al 0 1 2 rfl rfl rfl (by decide) (iW 0 rfl (ji 7 0 rfl rfl (av (aa (vL Alert.enc s_10) ?_)))))))
   obtain ⟨r_34,hr_35,hF⟩:=bind_some hF
   refine aD (kJ hr_35) rfl hb22 rfl rfl rfl rfl wz (aa (vI r_34) (ah (ai (aa (vI r_34) (aa (vB (r_34 != 0)) (ah ?_))))))
   rcases aj hF with⟨hc_36,hF⟩|⟨hc_36,hF⟩
   ·refine aC rfl hc_36 (ai (aa (vI r_34) (aa .nil (aa (vI 0) (aa (vI r_34) (ah ?_))))))
    obtain rfl:=ae hF
    exact ax (aK [.nil,(vI 0),(vI r_34)] ⟨rfl,⟨rfl,⟨rfl,trivial⟩⟩⟩)
   ·refine aB rfl hc_36 (aA (ai (aa (vL Alert.enc s_10) (aa (vL Alert.enc s_10) (aa (vI 0) (aa (vI 0) (ah ?_)))))))
    obtain rfl:=ae hF
    exact ax (aK [(vL Alert.enc s_10),(vI 0),(vI 0)] ⟨rfl,⟨rfl,⟨rfl,trivial⟩⟩⟩)
theorem nL {s_1:ByteArray} {substr_2:ByteArray} {r:Int} (hF:dR s_1 substr_2=some r) :
  FnM Tryz.prog 124 [(vS s_1),(vS substr_2)] [] (vI r) []:=by
 refine FnM.of_wH ⟨Tryz.prog,143,[],[]⟩ rfl Tryz.func124 rfl rfl (lb_ rfl) (by kernel_rfl) ?_
 unfold dR at hF
 refine ai (aa (vI 0) (ah (ai (aa (vS substr_2) (iU un9 rfl wz (aa (vI (substr_2.size:Int)) (ah (au (aR (au ?_))))))))))
 obtain ⟨v_3,h_4,hF⟩:=bind_some hF
 refine aN [(0,(vS s_1)),(1,(vS substr_2)),(5,(vI (substr_2.size:Int))),(16,(vB v_3))] [] ?_ ?_
 ·refine av (aa (vI (substr_2.size:Int)) (aa (vB ((substr_2.size:Int)==0)) ?_))
  rcases aj h_4 with⟨hc_5,h_4⟩|⟨hc_5,h_4⟩
  ·refine ay rfl hc_5 wz (af (af (af (aa (vB true) (aa (vB true) (ah ?_))))))
   obtain rfl:=ae h_4
   exact cu
  ·refine ay rfl hc_5 wz (aH (vS substr_2) wa rfl (aH (vS s_1) wa rfl (aH (vB (sEq substr_2 s_1)) wa rfl (aa (vB (sEq substr_2 s_1)) (aa (vB (sEq substr_2 s_1)) (ah ?_))))))
   obtain rfl:=ae h_4
   exact cu
 ·rintro ⟨⟩ _ sl_ H_ hp_ hq_
  refine aP _ hp_ hq_ ?_
  rcases aj hF with⟨hc_6,hF⟩|⟨hc_6,hF⟩
  ·refine aC rfl hc_6 (ai (aa (vI 0) (ah ?_)))
   obtain rfl:=ae hF
   exact ax (aK [(vI 0)] ⟨rfl,trivial⟩)
  ·refine aB rfl hc_6 (ai (aa (vI (substr_2.size:Int)) (aa (vB ((substr_2.size:Int)==1)) (aa (vB ((substr_2.size:Int)==1)) (ah ?_)))))
   rcases aj hF with⟨hc_7,hF⟩|⟨hc_7,hF⟩
   ·refine aC rfl hc_7 (ai (aa (vS s_1) (aa (vS substr_2) ?_)))
    obtain ⟨b_8,hy_9,hF⟩:=bind_some hF
    refine qE un9 rfl rfl hy_9 wz ?_
    obtain ⟨r_10,hr_11,hF⟩:=bind_some hF
    refine aD (iR hr_11) rfl hb135 rfl rfl rfl rfl wz (aa (vI r_10) (ah ?_))
    obtain rfl:=ae hF
    exact ax (aK [(vI r_10)] ⟨rfl,trivial⟩)
   ·refine aB rfl hc_7 (ai (aa (vI (substr_2.size:Int)) (aa (vS s_1) (iU un9 rfl wz (aa (vB (decide ((substr_2.size:Int)>=(s_1.size:Int)))) (aa (vB (decide ((substr_2.size:Int)>=(s_1.size:Int)))) (ah ?_)))))))
    rcases aj hF with⟨hc_12,hF⟩|⟨hc_12,hF⟩
    ·refine aC rfl hc_12 (ai (aa (vI (-1)) (ah ?_)))
     obtain rfl:=ae hF
     exact ax (aK [(vI (-1))] ⟨rfl,trivial⟩)
    ·refine aB rfl hc_12 (ai (aa (vI (substr_2.size:Int)) ?_))
     cases hF
theorem oG {s_1:ByteArray} {sep_2:ByteArray} {r:ByteArray×ByteArray×Bool} (hF:eP s_1 sep_2=some r) :
  FnM Tryz.prog 89 [(vS s_1),(vS sep_2)] [] (.tup [(vS r.1),(vS r.2.1),(vB r.2.2)]) []:=by
 refine FnM.of_wH ⟨Tryz.prog,23,[],[]⟩ rfl Tryz.func89 rfl rfl (lb_ rfl) (by kernel_rfl) ?_
 unfold eP at hF
 refine ai (aa (vS (⟨#[]⟩:ByteArray)) (aa (vS (⟨#[]⟩:ByteArray)) (aa (vB false) (ah (au (ai (aa (vS s_1) (aa (vS sep_2) ?_))))))))
 obtain ⟨r_3,hr_4,hF⟩:=bind_some hF
 refine aD (nL hr_4) rfl hb124 rfl rfl rfl rfl wz (aa (vI r_3) (ah (ai (aa (vI r_3) (aa (vB (decide (r_3>=0))) (ah ?_))))))
 rcases aj hF with⟨hc_5,hF⟩|⟨hc_5,hF⟩
 ·refine aC rfl hc_5 (au (bQ (aa (vS s_1) (aa (vI r_3) ?_))))
  obtain ⟨y_6,hy_7,hF⟩:=bind_some hF
  refine jh un9 rfl rfl hy_7 wz (aa (vS s_1) (aa (vI r_3) (aa (vS sep_2) (iU un9 rfl wz (aa (vI (w64 (r_3+(sep_2.size:Int)))) ?_)))))
  obtain ⟨y_8,hy_9,hF⟩:=bind_some hF
  refine jl un9 rfl rfl hy_9 wz (aa (vS y_6) (aa (vS y_8) (aa (vB true) (ah ?_))))
  obtain rfl:=ae hF
  exact ax (aK [(vS y_6),(vS y_8),(vB true)] ⟨rfl,⟨rfl,⟨rfl,trivial⟩⟩⟩)
 ·refine aB rfl hc_5 (aA (ai (aa (vS s_1) (aa (vS s_1) (aa (vS (⟨#[]⟩:ByteArray)) (aa (vB false) (ah ?_)))))))
  obtain rfl:=ae hF
  exact ax (aK [(vS s_1),(vS (⟨#[]⟩:ByteArray)),(vB false)] ⟨rfl,⟨rfl,⟨rfl,trivial⟩⟩⟩)
theorem BG {s_1:ByteArray} {sep_2:ByteArray} {r:ByteArray×ByteArray×Bool} (hF:strings_Cut s_1 sep_2=some r) :
  FnM Tryz.prog 60 [(vS s_1),(vS sep_2)] [] (.tup [(vS r.1),(vS r.2.1),(vB r.2.2)]) []:=by
 refine FnM.of_wH ⟨Tryz.prog,13,[],[]⟩ rfl Tryz.func60 rfl rfl (lb_ rfl) (by kernel_rfl) ?_
 unfold strings_Cut at hF
 refine ai (aa (vS (⟨#[]⟩:ByteArray)) (aa (vS (⟨#[]⟩:ByteArray)) (aa (vB false) (ah (ai (aa (vS s_1) (aa (vS sep_2) ?_)))))))
 obtain ⟨r_3,hr_4,hF⟩:=bind_some hF
 refine aD (oG hr_4) rfl hb89 rfl rfl rfl rfl wz (aa (vS r_3.1) (aa (vS r_3.2.1) (aa (vB r_3.2.2) (aa (vS r_3.1) (aa (vS r_3.2.1) (aa (vB r_3.2.2) (ah ?_)))))))
 obtain rfl:=ae hF
 exact ax (aK [(vS r_3.1),(vS r_3.2.1),(vB r_3.2.2)] ⟨rfl,⟨rfl,⟨rfl,trivial⟩⟩⟩)
theorem EX {line_1:ByteArray} {r:(List ByteArray)×Bool} (hF:uX line_1=some r) :
  FnM Tryz.prog 61 [(vS line_1)] [] (.tup [(vL eS r.1),(vB r.2)]) []:=by
 refine FnM.of_wH ⟨Tryz.prog,11,[],[]⟩ rfl Tryz.func61 rfl rfl (lb_ rfl) (by kernel_rfl) ?_
 unfold uX at hF
 refine ai (aa .nil (aa (vB false) (ah (ai (aa (vS line_1) ?_)))))
 obtain ⟨r_2,hr_3,hF⟩:=bind_some hF
 refine aD (nC hr_3) rfl hb55 rfl rfl rfl rfl wz (aa (vL eS r_2) (ah (ai (aa (vL eS r_2) (aa (vL eS r_2) ?_)))))
 obtain ⟨r_4,hr_5,hF⟩:=bind_some hF
 refine aD (iY hr_5) rfl hb87 rfl rfl rfl rfl wz (aa (vB (!r_4)) (aa (vL eS r_2) (aa (vB (!r_4)) (ah ?_))))
 obtain rfl:=ae hF
 exact ax (aK [(vL eS r_2),(vB (!r_4))] ⟨rfl,⟨rfl,trivial⟩⟩)
theorem BZ {s_1:ByteArray} {most_2:Int} {r:Int×Bool} (hF:o7 s_1 most_2=some r) :
  FnM Tryz.prog 90 [(vS s_1),(vI most_2)] [] (.tup [(vI r.1),(vB r.2)]) []:=by
 refine FnM.of_wH ⟨Tryz.prog,38,[],[]⟩ rfl Tryz.func90 rfl rfl (lb_ rfl) (by kernel_rfl) ?_
 unfold o7 at hF
 refine ai (aa (vI 0) (aa (vB false) (ah (ai (aa (vS s_1) ?_)))))
 obtain ⟨r_3,hr_4,hF⟩:=bind_some hF
 refine aD (mV hr_4) rfl hb122 rfl rfl rfl rfl wz (aa (vS r_3) (ah (au (au ?_))))
 obtain ⟨v_5,h_6,hF⟩:=bind_some hF
 refine aN [(0,(vS s_1)),(23,(vB v_5))] [] ?_ ?_
 ·refine av (aa (vS r_3) (aa (vB (sEq r_3 (⟨#[]⟩:ByteArray))) ?_))
  rcases aj h_6 with⟨hc_7,h_6⟩|⟨hc_7,h_6⟩
  ·refine ay rfl hc_7 wz (af (af (af (af (aa (vB true) (aa (vB true) (af (af (af (aa (vB true) (ah ?_)))))))))))
   obtain rfl:=ae h_6
   exact cu
  ·refine ay rfl hc_7 wz (aH (vS r_3) wa rfl (iU un9 rfl wa (aH (vI most_2) wa rfl (aH (vB (decide ((r_3.size:Int)>most_2))) wa rfl (aa (vB (decide ((r_3.size:Int)>most_2))) ?_)))))
   rcases aj h_6 with⟨hc_8,h_6⟩|⟨hc_8,h_6⟩
   ·refine ay rfl hc_8 wz (af (af (af (aa (vB true) (ah ?_)))))
    obtain rfl:=ae h_6
    exact cu
   ·refine ay rfl hc_8 wz (aH (vS r_3) wa rfl ?_)
    obtain ⟨r_9,hr_10,h_6⟩:=bind_some h_6
    refine aD (uj hr_10) rfl hb77 rfl rfl rfl rfl wa (aH (vB (!r_9)) wa rfl (aa (vB (!r_9)) (ah ?_)))
    obtain rfl:=ae h_6
    exact cu
 ·rintro ⟨⟩ _ sl_ H_ hp_ hq_
  refine aP _ hp_ hq_ ?_
  rcases aj hF with⟨hc_11,hF⟩|⟨hc_11,hF⟩
  ·refine aC rfl hc_11 (ai (aa (vI 0) (aa (vB false) (ah ?_))))
   obtain rfl:=ae hF
   exact ax (aK [(vI 0),(vB false)] ⟨rfl,⟨rfl,trivial⟩⟩)
  ·refine aB rfl hc_11 (aA (ai (aa (vS s_1) ?_)))
   obtain ⟨r_12,hr_13,hF⟩:=bind_some hF
   refine aD (strconv_Atoi_ok hr_13) rfl hb123 rfl rfl rfl rfl wz (aa (.tup [(vI r_12),.nili]) (aa (vI r_12) (aa .nili (aa (vI r_12) (aa .nili (ah (au ?_)))))))
   obtain ⟨v_14,h_15,hF⟩:=bind_some hF
   refine aN [(4,(vI r_12)),(5,(vB v_14))] [] ?_ ?_
   ·refine av (aa (vI r_12) (aa .nili (h_ieq if58 rfl rfl rfl wz (aa (vB true) (aH (vI r_12) wa rfl ?_)))))
    obtain ⟨r_16,hr_17,h_15⟩:=bind_some h_15
    refine aD (ow hr_17) rfl hb46 rfl rfl rfl rfl wa (aH (vS s_1) wa rfl (aH (vB (sEq r_16 s_1)) wa rfl (aa (vB (sEq r_16 s_1)) (aa (vI r_12) (aa (vB (sEq r_16 s_1)) (ah ?_))))))
    obtain rfl:=ae h_15
    exact cu
   ·rintro ⟨⟩ _ sl_ H_ hp_ hq_
    refine aP _ hp_ hq_ ?_
    obtain rfl:=ae hF
    exact ax (aK [(vI r_12),(vB v_14)] ⟨rfl,⟨rfl,trivial⟩⟩)
theorem rE {l_1:(List ByteArray)} {most_2:Int} {r:(List Int)×Bool} (hF:iA l_1 most_2=some r) :
  FnM Tryz.prog 62 [(vL eS l_1),(vI most_2)] [] (.tup [(vL eI r.1),(vB r.2)]) []:=by
 refine FnM.of_wH ⟨Tryz.prog,35,[],[]⟩ rfl Tryz.func62 rfl rfl (lb_ rfl) (by kernel_rfl) ?_
 unfold iA at hF
 refine ai (aa .nil (aa (vB false) (ah (ai (aa .nil (ah (ai (aa (vB true) (ah (au (ai (aa (vL eS l_1) (dz kQ rfl wz (aa (vI 0) (ah (ni (λn_9 => ?_)))))))))))))))))
 obtain ⟨o_14,hj_15,hF⟩:=bind_some hF
 obtain ⟨hn_7,hj_15⟩:=bu hj_15
 refine iZ (σ:=(List Int)×Bool) (N:=Nm) (λp=>(λ(s_8:(List Int)×Bool) (n_11:Nm)=>([(6,(gV n_11 1 s_8.1)),(7,(vB s_8.2))]:SL_)) p.1 p.2) (λp=>(λ(s_8:(List Int)×Bool) (n_11:Nm)=>([(n_11,gB 1 eI s_8.1)]:Hp)) p.1 p.2) (λ(k_3:Nat)=>(λp=>(λ(s_8:(List Int)×Bool) (n_11:Nm)=>([(1,(vI most_2)),(6,(gV n_11 1 s_8.1)),(7,(vB s_8.2)),(12,(vL eS l_1)),(13,(vI (l_1.length:Int))),(14,(vI (k_3:Int)))]:SL_)) p.1 p.2)) (λk x s=>iB most_2 k x s) o_14 l_1 ((([]:List Int),true),n_9) hj_15 rfl (aM rfl) ?_ ?_
 ·rintro ⟨k_3,l_4,s_8,n_11⟩ ⟨hL_13,hD_6⟩
  dsimp only at hL_13 hD_6
  cases l_4 with
  | nil =>
   obtain rfl:=ae hL_13
   refine ai (aa (vB (decide ((k_3:Int)<(l_1.length:Int)))) (ah ?_))
   refine au (aB rfl (drop_nil hD_6) (bO ?_))
   exact bD (s_8,n_11) rfl rfl (aM rfl)
  | cons x_5 l_4 =>
   obtain ⟨c_,hc_12,hL_13⟩:=bind_some hL_13
   refine ai (aa (vB (decide ((k_3:Int)<(l_1.length:Int)))) (ah ?_))
   refine au (aC rfl (bL hD_6) (aA ?_))
   unfold iB at hc_12
   refine au (aR (ai (eD fO rfl rfl (dh hD_6) rfl wz (bK sz9 ag9 rfl (vS x_5) rfl wz (aa (vS x_5) (ah (ai (aa (vS x_5) (aa (vI most_2) ?_)))))))))
   obtain ⟨r_16,hr_17,hc_12⟩:=bind_some hc_12
   refine aD (BZ hr_17) rfl hb90 rfl rfl rfl rfl wz (aa (.tup [(vI r_16.1),(vB r_16.2)]) (aa (vI r_16.1) (aa (vB r_16.2) (aa (vI r_16.1) (aa (vB r_16.2) (ah ?_))))))
   obtain ⟨v_18,h_19,hc_12⟩:=bind_some hc_12
   refine lG (β:=Nm) (λ(n_20:Nm)=>([(1,(vI most_2)),(6,(gV n_20 1 v_18.1)),(7,(vB v_18.2)),(12,(vL eS l_1)),(13,(vI (l_1.length:Int))),(14,(vI (k_3:Int)))]:SL_)) (λ(n_20:Nm)=>([(n_20,gB 1 eI v_18.1)]:Hp)) (λ_=>True) ?_ ?_
   ·refine av (aa (gV n_11 1 s_8.1) (aa (vI r_16.1) (di (([r_16.1]:List Int).map eI) jZ uy rfl rfl rfl rfl rfl wz ?_)))
    obtain ⟨a_21,hz_22,h_19⟩:=bind_some h_19
    refine lS 0 il ft (i:=0) el22 el22 sz3 z3 rfl (by decide) by3 (by decide) (λ_=>rfl) rfl rfl rfl hz_22 wz (λn_23=>aa (vB s_8.2) ?_)
    rcases aj h_19 with⟨hc_24,h_19⟩|⟨hc_24,h_19⟩
    ·refine ay rfl hc_24 wz (aH (vB r_16.2) wa rfl (aa (vB r_16.2) (aa (gV n_23 1 a_21) (aa (vB r_16.2) (ah ?_)))))
     obtain rfl:=ae h_19
     exact bD n_23 trivial rfl (aM rfl)
    ·refine ay rfl hc_24 wz (af (aa (vB false) (aa (gV n_23 1 a_21) (aa (vB false) (ah ?_)))))
     obtain rfl:=ae h_19
     exact bD n_23 trivial rfl (aM rfl)
   ·rintro n_20 _ sl_ H_ hp_ hq_
    refine aP _ hp_ hq_ (av (gY (cZ hD_6 hn_7) wz rfl (aa (vI ((k_3+1:Nat):Int)) (ah ?_))))
    obtain rfl:=ae hc_12
    exact bN (k_3+1,l_4,(v_18.1,v_18.2),n_20) ⟨hL_13,bn hD_6⟩ (ls_ _) rfl (aM rfl)
 ·rintro ⟨s_8,n_11⟩ ho_ sl_ H_ hp_ hq_
  subst ho_
  refine aP _ hp_ hq_ (ai (aa (gV n_11 1 s_8.1) (aa (vB s_8.2) (aa (gV n_11 1 s_8.1) (aa (vB s_8.2) (ah (iW 0 rfl (ji 4 0 rfl rfl (ji 6 0 rfl rfl (ji 33 0 rfl rfl ?_))))))))))
  obtain rfl:=ae hF
  exact ax (aK [(vL eI s_8.1),(vB s_8.2)] ⟨rfl,⟨rfl,trivial⟩⟩)
theorem rq {r_1:AlertReader} {line_2:ByteArray} {r:Bool×AlertReader} (hF:ref_alertReader_line r_1 line_2=some r) :
  Im Alert.al Tryz.prog 35 [(.ref (ak 0) 0 0),(vS line_2)] [.cells 2 [(gV (ak 1) 9 r_1.f_l),(vI r_1.f_rank)]] (λv_=>[.cells 2 [v_,(vI r.2.f_rank)]]) r_1.f_l r.2.f_l (λ_=>(vB r.1)):=by
 refine FnM.of_wHal Alert.al ⟨Tryz.prog,224,[100136,100136],[]⟩ rfl Tryz.func35 rfl rfl (lb_ rfl) (by kernel_rfl) (λ_ _=>rfl) (λ_ _ _=>rfl) (λ_=>rfl) (λ_ _=>rfl) (λ_ _ h_=>Dp h_) ?_
 unfold ref_alertReader_line at hF
 show wH _ _ _ _ ([((ak 0),some (.cells 2 [(gV (ak 1) 9 r_1.f_l),(vI r_1.f_rank)])),((ak 1),Alert.al.box r_1.f_l (Alert.al.exA 1 r_1.f_l) (Alert.al.exB 1 r_1.f_l)),((Alert.al.exA 1 r_1.f_l),gB 1 eS (aY Alert.Refs r_1.f_l)),((Alert.al.exB 1 r_1.f_l),gB 4 Rect.enc (aY Alert.Areas r_1.f_l))]:Hp)
 refine ai (aa (vB false) (ah (ai (aa (vS line_2) ?_))))
 obtain ⟨r_3,hr_4,hF⟩:=bind_some hF
 refine aD (nM hr_4) rfl hb56 rfl rfl rfl rfl wz (aa (.tup [(vS r_3.1),(vB r_3.2)]) (aa (vS r_3.1) (aa (vB r_3.2) (aa (vS r_3.1) (aa (vB r_3.2) (ah (au (ai (aa (vB r_3.2) (ah ?_))))))))))
 rcases aj hF with⟨hc_5,hF⟩|⟨hc_5,hF⟩
 ·refine aC rfl hc_5 (au (au ?_))
  obtain ⟨v_6,h_7,hF⟩:=bind_some hF
  refine aN [(0,(.ref (ak 0) 0 0)),(5,(vS r_3.1)),(38,(vB v_6))] [((ak 0),some (.cells 2 [(gV (ak 1) 9 r_1.f_l),(vI r_1.f_rank)])),((ak 1),Alert.al.box r_1.f_l (Alert.al.exA 1 r_1.f_l) (Alert.al.exB 1 r_1.f_l)),((Alert.al.exA 1 r_1.f_l),gB 1 eS (aY Alert.Refs r_1.f_l)),((Alert.al.exB 1 r_1.f_l),gB 4 Rect.enc (aY Alert.Areas r_1.f_l))] ?_ ?_
  ·refine av (aa (vS r_3.1) (aa (vB (sEq r_3.1 (⟨#[]⟩:ByteArray))) ?_))
   rcases aj h_7 with⟨hc_8,h_7⟩|⟨hc_8,h_7⟩
   ·refine ay rfl hc_8 wz (af (af (af (af (af (aa (vB true) (aa (vB true) (af (af (af (af (af (aa (vB true) (ah ?_))))))))))))))
    obtain rfl:=ae h_7
    exact cu
   ·refine ay rfl hc_8 wz (aH (.ref (ak 0) 0 0) wa rfl (aH (.ref (ak 0) 0 0) wa rfl (aG yO rfl 1 rfl wa (aI 0 0 il ft sz3 ag3 rfl rfl (vI r_1.f_rank) rfl wa (aH (vB (r_1.f_rank==0)) wa rfl (aa (vB (r_1.f_rank==0)) ?_))))))
    rcases aj h_7 with⟨hc_9,h_7⟩|⟨hc_9,h_7⟩
    ·refine ay rfl hc_9 wz (af (af (af (af (af (aa (vB true) (ah ?_)))))))
     obtain rfl:=ae h_7
     exact cu
    ·refine ay rfl hc_9 wz (aH (.ref (ak 0) 0 0) wa rfl (aH (.ref (ak 0) 0 0) wa rfl (aG yO rfl 1 rfl wa (aI 0 0 il ft sz3 ag3 rfl rfl (vI r_1.f_rank) rfl wa (aH (vB (r_1.f_rank==4)) wa rfl (aa (vB (r_1.f_rank==4)) (ah ?_)))))))
     obtain rfl:=ae h_7
     exact cu
  ·rintro ⟨⟩ _ sl_ H_ hp_ hq_
   refine aP _ hp_ hq_ ?_
   rcases aj hF with⟨hc_10,hF⟩|⟨hc_10,hF⟩
   ·refine aC rfl hc_10 (ai (aa (vB false) (ah ?_)))
    obtain rfl:=ae hF
    refine ax ?_
    exact⟨.inr rfl,[(vB false)],(ak 1),(Alert.al.exA 1 r_1.f_l),(Alert.al.exB 1 r_1.f_l),1,2,3,⟨rfl,trivial⟩,rfl,rfl,rfl,rfl,rfl,⟨Nat.le_of_ble_eq_true rfl,Nat.le_of_ble_eq_true rfl,Nat.le_of_ble_eq_true rfl⟩,by decide,by decide,by decide⟩
   ·refine aB rfl hc_10 (aA (au (bQ (aa (.ref (ak 0) 0 0) (aa (.ref (ak 0) 0 0) (aG qH rfl 0 rfl wz (aI 3 0 (.inr (by kernel_rfl)) (λ_ _ ag=>trivial) Cg D6 rfl rfl (gV (ak 1) 9 r_1.f_l) rfl wz (aa (.ref (ak 0) 0 0) (aa (.ref (ak 0) 0 0) (aG qH rfl 0 rfl wz (aI 7 0 (.inr (by kernel_rfl)) (λ_ _ ag=>⟨.inl ⟨rfl,rfl⟩,trivial⟩) Cg D6 rfl rfl (gV (ak 1) 9 r_1.f_l) rfl wz (mo oK rfl wz (aa (vI (w64 ((r_1.f_l.length:Int)-1))) (aa (.ref (ak 0) 0 0) (aa (vS r_3.1) ?_)))))))))))))))
    obtain ⟨_,hi_11,hF⟩:=bind_some hF
    refine uI lJ rfl rfl (qA hi_11) (mg hi_11) wz (aG kC rfl 8 rfl wz ?_)
    obtain ⟨e_12,hy_13,hF⟩:=bind_some hF
    refine Dy Alert.al 14 (.inr (by kernel_rfl)) (λ_ _ ag=>⟨.inr (.inr (by kernel_rfl)),⟨.inr (.inr (by kernel_rfl)),trivial⟩⟩) 1 sz9 rfl rfl hy_13 (⟨e_12.Id,e_12.Sender,e_12.Kind,e_12.Refs,e_12.At,e_12.Until,e_12.Weight,e_12.Areas,r_3.1⟩:Alert) (Alert.al.exA 1 r_1.f_l) (Alert.al.exB 1 r_1.f_l) rfl wz (mJ (b':=gB 1 eS (aY Alert.Refs (setLast r_1.f_l (⟨e_12.Id,e_12.Sender,e_12.Kind,e_12.Refs,e_12.At,e_12.Until,e_12.Weight,e_12.Areas,r_3.1⟩:Alert)))) 2 rfl (congrArg (gB 1 eS) ((qp Alert.Refs hy_13).trans (iV Alert.Refs r_1.f_l (⟨e_12.Id,e_12.Sender,e_12.Kind,e_12.Refs,e_12.At,e_12.Until,e_12.Weight,e_12.Areas,r_3.1⟩:Alert)).symm)) (mJ (b':=gB 4 Rect.enc (aY Alert.Areas (setLast r_1.f_l (⟨e_12.Id,e_12.Sender,e_12.Kind,e_12.Refs,e_12.At,e_12.Until,e_12.Weight,e_12.Areas,r_3.1⟩:Alert)))) 3 rfl (congrArg (gB 4 Rect.enc) ((qp Alert.Areas hy_13).trans (iV Alert.Areas r_1.f_l (⟨e_12.Id,e_12.Sender,e_12.Kind,e_12.Refs,e_12.At,e_12.Until,e_12.Weight,e_12.Areas,r_3.1⟩:Alert)).symm)) (fq (v':=(gV (ak 1) 9 (setLast r_1.f_l (⟨e_12.Id,e_12.Sender,e_12.Kind,e_12.Refs,e_12.At,e_12.Until,e_12.Weight,e_12.Areas,r_3.1⟩:Alert)))) 42 rfl (cB (eG _ hy_13)) (fq (v':=(gV (ak 1) 9 (setLast r_1.f_l (⟨e_12.Id,e_12.Sender,e_12.Kind,e_12.Refs,e_12.At,e_12.Until,e_12.Weight,e_12.Areas,r_3.1⟩:Alert)))) 46 rfl (cB (eG _ hy_13)) (mJ (b':=some (.cells 2 [(gV (ak 1) 9 (setLast r_1.f_l (⟨e_12.Id,e_12.Sender,e_12.Kind,e_12.Refs,e_12.At,e_12.Until,e_12.Weight,e_12.Areas,r_3.1⟩:Alert))),(vI r_1.f_rank)])) 0 rfl (congrArg (λv_=>some (Box.cells 2 [v_,(vI r_1.f_rank)])) (cB (eG _ hy_13))) (aa (.ref (ak 0) 0 0) (aG yO rfl 1 rfl wz (fe 17 (.inr (by kernel_rfl)) (λ_ _ ag=>⟨.inr (.inr (by kernel_rfl)),⟨.inr (.inr (by kernel_rfl)),⟨.inr (.inr (by kernel_rfl)),trivial⟩⟩⟩) 0 sz3 rfl rfl [(gV (ak 1) 9 (setLast r_1.f_l (⟨e_12.Id,e_12.Sender,e_12.Kind,e_12.Refs,e_12.At,e_12.Until,e_12.Weight,e_12.Areas,r_3.1⟩:Alert))),(vI 4)] rfl wz (ah (ai (aa (vB true) (ah ?_))))))))))))
    obtain rfl:=ae hF
    refine ax ?_
    exact⟨.inr rfl,[(vB true)],(ak 1),(Alert.al.exA 1 r_1.f_l),(Alert.al.exB 1 r_1.f_l),1,2,3,⟨rfl,trivial⟩,rfl,rfl,rfl,rfl,rfl,⟨Nat.le_of_ble_eq_true rfl,Nat.le_of_ble_eq_true rfl,Nat.le_of_ble_eq_true rfl⟩,by decide,by decide,by decide⟩
 ·refine aB rfl hc_5 (aA (ai (aa (vS line_2) ?_)))
  obtain ⟨r_14,hr_15,hF⟩:=bind_some hF
  refine aD (EX hr_15) rfl hb61 rfl rfl rfl rfl wz (aa (.tup [(vL eS r_14.1),(vB r_14.2)]) (aa (vL eS r_14.1) (aa (vB r_14.2) (aa (vL eS r_14.1) (aa (vB r_14.2) (ah (ai (Ee 0 (.inl rfl) wz (λn_16=>mJ (b':=some (bM D.str (D.int .i64) ([]:List (ByteArray×Int)))) 4 rfl rfl (Bc (eq:=eqS) (kD:=D.str) (vD:=(D.int .i64)) (es:=([]:List (ByteArray×Int))) (k:=(⟨#[97,108,101,114,116]⟩:ByteArray)) (v:=1) 0 4 il ft (λ_ _=>rfl) Jw (by kernel_rfl) rfl rfl rfl rfl wz (Bc (eq:=eqS) (kD:=D.str) (vD:=(D.int .i64)) (es:=(aO eqS ([]:List (ByteArray×Int)) (⟨#[97,108,101,114,116]⟩:ByteArray) 1)) (k:=(⟨#[114,101,102]⟩:ByteArray)) (v:=2) 0 4 il ft (λ_ _=>rfl) Jw (by kernel_rfl) rfl rfl rfl rfl wz (Bc (eq:=eqS) (kD:=D.str) (vD:=(D.int .i64)) (es:=(aO eqS (aO eqS ([]:List (ByteArray×Int)) (⟨#[97,108,101,114,116]⟩:ByteArray) 1) (⟨#[114,101,102]⟩:ByteArray) 2)) (k:=(⟨#[97,114,101,97]⟩:ByteArray)) (v:=3) 0 4 il ft (λ_ _=>rfl) Jw (by kernel_rfl) rfl rfl rfl rfl wz (aa (.map n_16) (aa (vL eS r_14.1) ?_))))))))))))))
  obtain ⟨y_17,hy_18,hF⟩:=bind_some hF
  refine eD fO rfl rfl hy_18 rfl wz (bK sz9 ag9 rfl (vS y_17) rfl wz (GQ (eq:=eqS) (kD:=D.str) (vD:=(D.int .i64)) (es:=(aO eqS (aO eqS (aO eqS ([]:List (ByteArray×Int)) (⟨#[97,108,101,114,116]⟩:ByteArray) 1) (⟨#[114,101,102]⟩:ByteArray) 2) (⟨#[97,114,101,97]⟩:ByteArray) 3)) (k:=y_17) (z:=0) 0 4 il ft (λ_ _=>rfl) Jw (by kernel_rfl) (by kernel_rfl) rfl rfl rfl (vI ((eX eqS (aO eqS (aO eqS (aO eqS ([]:List (ByteArray×Int)) (⟨#[97,108,101,114,116]⟩:ByteArray) 1) (⟨#[114,101,102]⟩:ByteArray) 2) (⟨#[97,114,101,97]⟩:ByteArray) 3) y_17).getD 0)) rfl wz (aa (vI ((eX eqS (aO eqS (aO eqS (aO eqS ([]:List (ByteArray×Int)) (⟨#[97,108,101,114,116]⟩:ByteArray) 1) (⟨#[114,101,102]⟩:ByteArray) 2) (⟨#[97,114,101,97]⟩:ByteArray) 3) y_17).getD 0)) (ah (au (au ?_))))))
  obtain ⟨v_19,h_20,hF⟩:=bind_some hF
  refine aN [(0,(.ref (ak 0) 0 0)),(7,(vL eS r_14.1)),(9,(vI ((eX eqS (aO eqS (aO eqS (aO eqS ([]:List (ByteArray×Int)) (⟨#[97,108,101,114,116]⟩:ByteArray) 1) (⟨#[114,101,102]⟩:ByteArray) 2) (⟨#[97,114,101,97]⟩:ByteArray) 3) y_17).getD 0))),(90,(vB v_19))] [((ak 0),some (.cells 2 [(gV (ak 1) 9 r_1.f_l),(vI r_1.f_rank)])),((ak 1),Alert.al.box r_1.f_l (Alert.al.exA 1 r_1.f_l) (Alert.al.exB 1 r_1.f_l)),((Alert.al.exA 1 r_1.f_l),gB 1 eS (aY Alert.Refs r_1.f_l)),((Alert.al.exB 1 r_1.f_l),gB 4 Rect.enc (aY Alert.Areas r_1.f_l)),(n_16,some (bM D.str (D.int .i64) (aO eqS (aO eqS (aO eqS ([]:List (ByteArray×Int)) (⟨#[97,108,101,114,116]⟩:ByteArray) 1) (⟨#[114,101,102]⟩:ByteArray) 2) (⟨#[97,114,101,97]⟩:ByteArray) 3)))] ?_ ?_
  ·refine av (aa (vB r_14.2) (aa (vB (!r_14.2)) ?_))
   rcases aj h_20 with⟨hc_21,h_20⟩|⟨hc_21,h_20⟩
   ·refine ay rfl hc_21 wz (af (af (aa (vB true) (aa (vB true) (af (af (af (aX (wn rfl rfl) (aX (wn rfl rfl) (aX (wn rfl rfl) (aX (wn rfl rfl) (aX (wn rfl rfl) (aX (wn rfl rfl) (aX (wn rfl rfl) (aX (wn rfl rfl) (aX (wn rfl rfl) (aX (wn rfl rfl) (aX (wn rfl rfl) (aX (wn rfl rfl) (aX (wn rfl rfl) (af (aa (vB true) (ah ?_)))))))))))))))))))))))
    obtain rfl:=ae h_20
    exact cu
   ·refine ay rfl hc_21 wz (aH (vI ((eX eqS (aO eqS (aO eqS (aO eqS ([]:List (ByteArray×Int)) (⟨#[97,108,101,114,116]⟩:ByteArray) 1) (⟨#[114,101,102]⟩:ByteArray) 2) (⟨#[97,114,101,97]⟩:ByteArray) 3) y_17).getD 0)) wa rfl (aH (vB (((eX eqS (aO eqS (aO eqS (aO eqS ([]:List (ByteArray×Int)) (⟨#[97,108,101,114,116]⟩:ByteArray) 1) (⟨#[114,101,102]⟩:ByteArray) 2) (⟨#[97,114,101,97]⟩:ByteArray) 3) y_17).getD 0)==0)) wa rfl (aa (vB (((eX eqS (aO eqS (aO eqS (aO eqS ([]:List (ByteArray×Int)) (⟨#[97,108,101,114,116]⟩:ByteArray) 1) (⟨#[114,101,102]⟩:ByteArray) 2) (⟨#[97,114,101,97]⟩:ByteArray) 3) y_17).getD 0)==0)) ?_)))
    rcases aj h_20 with⟨hc_22,h_20⟩|⟨hc_22,h_20⟩
    ·refine ay rfl hc_22 wz (af (af (af (aX (wn rfl rfl) (aX (wn rfl rfl) (aX (wn rfl rfl) (aX (wn rfl rfl) (aX (wn rfl rfl) (aX (wn rfl rfl) (aX (wn rfl rfl) (aX (wn rfl rfl) (aX (wn rfl rfl) (aX (wn rfl rfl) (aX (wn rfl rfl) (aX (wn rfl rfl) (aX (wn rfl rfl) (af (aa (vB true) (ah ?_)))))))))))))))))))
     obtain rfl:=ae h_20
     exact cu
    ·refine ay rfl hc_22 wz (aH (vI ((eX eqS (aO eqS (aO eqS (aO eqS ([]:List (ByteArray×Int)) (⟨#[97,108,101,114,116]⟩:ByteArray) 1) (⟨#[114,101,102]⟩:ByteArray) 2) (⟨#[97,114,101,97]⟩:ByteArray) 3) y_17).getD 0)) wa rfl (aH (vB (decide (((eX eqS (aO eqS (aO eqS (aO eqS ([]:List (ByteArray×Int)) (⟨#[97,108,101,114,116]⟩:ByteArray) 1) (⟨#[114,101,102]⟩:ByteArray) 2) (⟨#[97,114,101,97]⟩:ByteArray) 3) y_17).getD 0)>1))) wa rfl ?_))
     rcases aj h_20 with⟨hc_23,h_20⟩|⟨hc_23,h_20⟩
     ·refine ay rfl hc_23 wa (aH (.ref (ak 0) 0 0) wa rfl (aH (.ref (ak 0) 0 0) wa rfl (aG yO rfl 1 rfl wa (aI 0 0 il ft sz3 ag3 rfl rfl (vI r_1.f_rank) rfl wa (aH (vB (r_1.f_rank==0)) wa rfl ?_)))))
      rcases aj h_20 with⟨hc_24,h_20⟩|⟨hc_24,h_20⟩
      ·refine ay rfl hc_24 wa (af (af (af (af (af (af (aH (vB true) wa rfl (aH (vB true) wa rfl (aa (vB true) (ah ?_))))))))))
       obtain rfl:=ae h_20
       exact cu
      ·refine ay rfl hc_24 wa (aH (.ref (ak 0) 0 0) wa rfl (aH (.ref (ak 0) 0 0) wa rfl (aG yO rfl 1 rfl wa (aI 0 0 il ft sz3 ag3 rfl rfl (vI r_1.f_rank) rfl wa (aH (vI ((eX eqS (aO eqS (aO eqS (aO eqS ([]:List (ByteArray×Int)) (⟨#[97,108,101,114,116]⟩:ByteArray) 1) (⟨#[114,101,102]⟩:ByteArray) 2) (⟨#[97,114,101,97]⟩:ByteArray) 3) y_17).getD 0)) wa rfl (aH (vB (decide (r_1.f_rank>((eX eqS (aO eqS (aO eqS (aO eqS ([]:List (ByteArray×Int)) (⟨#[97,108,101,114,116]⟩:ByteArray) 1) (⟨#[114,101,102]⟩:ByteArray) 2) (⟨#[97,114,101,97]⟩:ByteArray) 3) y_17).getD 0)))) wa rfl (aH (vB (decide (r_1.f_rank>((eX eqS (aO eqS (aO eqS (aO eqS ([]:List (ByteArray×Int)) (⟨#[97,108,101,114,116]⟩:ByteArray) 1) (⟨#[114,101,102]⟩:ByteArray) 2) (⟨#[97,114,101,97]⟩:ByteArray) 3) y_17).getD 0)))) wa rfl (aH (vB (decide (r_1.f_rank>((eX eqS (aO eqS (aO eqS (aO eqS ([]:List (ByteArray×Int)) (⟨#[97,108,101,114,116]⟩:ByteArray) 1) (⟨#[114,101,102]⟩:ByteArray) 2) (⟨#[97,114,101,97]⟩:ByteArray) 3) y_17).getD 0)))) wa rfl (aa (vB (decide (r_1.f_rank>((eX eqS (aO eqS (aO eqS (aO eqS ([]:List (ByteArray×Int)) (⟨#[97,108,101,114,116]⟩:ByteArray) 1) (⟨#[114,101,102]⟩:ByteArray) 2) (⟨#[97,114,101,97]⟩:ByteArray) 3) y_17).getD 0)))) (ah ?_))))))))))
       obtain rfl:=ae h_20
       exact cu
     ·refine ay rfl hc_23 wa (af (af (af (af (af (af (aX (wn rfl rfl) (aX (wn rfl rfl) (aX (wn rfl rfl) (aX (wn rfl rfl) (aX (wn rfl rfl) (aX (wn rfl rfl) (af (aH (vB false) wa rfl (aa (vB false) (ah ?_))))))))))))))))
      obtain rfl:=ae h_20
      exact cu
  ·rintro ⟨⟩ _ sl_ H_ hp_ hq_
   refine aP _ hp_ hq_ ?_
   rcases aj hF with⟨hc_25,hF⟩|⟨hc_25,hF⟩
   ·refine aC rfl hc_25 (ai (aa (vB false) (ah ?_)))
    obtain rfl:=ae hF
    refine ax ?_
    exact⟨.inr rfl,[(vB false)],(ak 1),(Alert.al.exA 1 r_1.f_l),(Alert.al.exB 1 r_1.f_l),1,2,3,⟨rfl,trivial⟩,rfl,rfl,rfl,rfl,rfl,⟨Nat.le_of_ble_eq_true rfl,Nat.le_of_ble_eq_true rfl,Nat.le_of_ble_eq_true rfl⟩,by decide,by decide,by decide⟩
   ·refine aB rfl hc_25 (aA (ai (aa (.ref (ak 0) 0 0) (aa (vI ((eX eqS (aO eqS (aO eqS (aO eqS ([]:List (ByteArray×Int)) (⟨#[97,108,101,114,116]⟩:ByteArray) 1) (⟨#[114,101,102]⟩:ByteArray) 2) (⟨#[97,114,101,97]⟩:ByteArray) 3) y_17).getD 0)) (aa (.ref (ak 0) 0 0) (aG yO rfl 1 rfl wz (fe 0 il ft 0 sz3 rfl rfl [(gV (ak 1) 9 r_1.f_l),(vI ((eX eqS (aO eqS (aO eqS (aO eqS ([]:List (ByteArray×Int)) (⟨#[97,108,101,114,116]⟩:ByteArray) 1) (⟨#[114,101,102]⟩:ByteArray) 2) (⟨#[97,114,101,97]⟩:ByteArray) 3) y_17).getD 0))] rfl wz (ah (au (aR (au ?_)))))))))))
    obtain ⟨v_26,h_27,hF⟩:=bind_some hF
    refine aN [(0,(.ref (ak 0) 0 0)),(7,(vL eS r_14.1)),(9,(vI ((eX eqS (aO eqS (aO eqS (aO eqS ([]:List (ByteArray×Int)) (⟨#[97,108,101,114,116]⟩:ByteArray) 1) (⟨#[114,101,102]⟩:ByteArray) 2) (⟨#[97,114,101,97]⟩:ByteArray) 3) y_17).getD 0))),(95,(vB v_26))] [((ak 0),some (.cells 2 [(gV (ak 1) 9 r_1.f_l),(vI ((eX eqS (aO eqS (aO eqS (aO eqS ([]:List (ByteArray×Int)) (⟨#[97,108,101,114,116]⟩:ByteArray) 1) (⟨#[114,101,102]⟩:ByteArray) 2) (⟨#[97,114,101,97]⟩:ByteArray) 3) y_17).getD 0))])),((ak 1),Alert.al.box r_1.f_l (Alert.al.exA 1 r_1.f_l) (Alert.al.exB 1 r_1.f_l)),((Alert.al.exA 1 r_1.f_l),gB 1 eS (aY Alert.Refs r_1.f_l)),((Alert.al.exB 1 r_1.f_l),gB 4 Rect.enc (aY Alert.Areas r_1.f_l)),(n_16,some (bM D.str (D.int .i64) (aO eqS (aO eqS (aO eqS ([]:List (ByteArray×Int)) (⟨#[97,108,101,114,116]⟩:ByteArray) 1) (⟨#[114,101,102]⟩:ByteArray) 2) (⟨#[97,114,101,97]⟩:ByteArray) 3)))] ?_ ?_
    ·refine av (aa (vI ((eX eqS (aO eqS (aO eqS (aO eqS ([]:List (ByteArray×Int)) (⟨#[97,108,101,114,116]⟩:ByteArray) 1) (⟨#[114,101,102]⟩:ByteArray) 2) (⟨#[97,114,101,97]⟩:ByteArray) 3) y_17).getD 0)) (aa (vB (((eX eqS (aO eqS (aO eqS (aO eqS ([]:List (ByteArray×Int)) (⟨#[97,108,101,114,116]⟩:ByteArray) 1) (⟨#[114,101,102]⟩:ByteArray) 2) (⟨#[97,114,101,97]⟩:ByteArray) 3) y_17).getD 0)==1)) ?_))
     rcases aj h_27 with⟨hc_28,h_27⟩|⟨hc_28,h_27⟩
     ·refine ay rfl hc_28 wz (aH (vL eS r_14.1) wa rfl (dz kQ rfl wa (aH (vB ((r_14.1.length:Int)==7)) wa rfl (aa (vB ((r_14.1.length:Int)==7)) (aa (vB ((r_14.1.length:Int)==7)) (ah ?_))))))
      obtain rfl:=ae h_27
      exact cu
     ·refine ay rfl hc_28 wz (af (af (af (aa (vB false) (aa (vB false) (ah ?_))))))
      obtain rfl:=ae h_27
      exact cu
    ·rintro ⟨⟩ _ sl_ H_ hp_ hq_
     refine aP _ hp_ hq_ ?_
     rcases aj hF with⟨hc_29,hF⟩|⟨hc_29,hF⟩
     ·refine aC rfl hc_29 (au (bQ ?_))
      obtain ⟨r_30,hr_31,hF⟩:=bind_some hF
      refine aD (qx hr_31) rfl hb30 rfl rfl rfl rfl wz (aa (vL eS r_14.1) ?_)
      obtain ⟨y_32,hy_33,hF⟩:=bind_some hF
      refine eD fO rfl rfl hy_33 rfl wz (bK sz9 ag9 rfl (vS y_32) rfl wz ?_)
      obtain ⟨r_34,hr_35,hF⟩:=bind_some hF
      refine aD (gz hr_35) rfl hb58 rfl rfl rfl rfl wz (aa (vI r_34) (ah (ai (aa (vL eS r_14.1) ?_))))
      obtain ⟨y_36,hy_37,hF⟩:=bind_some hF
      refine lH kQ sz9 (λ_=>rfl) rfl rfl hy_37 wz ?_
      obtain ⟨r_38,hr_39,hF⟩:=bind_some hF
      refine aD (rE hr_39) rfl hb62 rfl rfl rfl rfl wz (aa (.tup [(vL eI r_38.1),(vB r_38.2)]) (aa (vL eI r_38.1) (aa (vB r_38.2) (aa (vL eI r_38.1) (aa (vB r_38.2) (ah (au (EY Alert.al 1 2 3 rfl rfl rfl (by decide) (bQ (aa (.ref (ak 0) 0 0) (aa (.ref (ak 0) 0 0) (aa (.ref (ak 0) 0 0) (aG qH rfl 0 rfl wz (aI 4 0 (.inr (by kernel_rfl)) (λ_ _ ag=>trivial) Cg D6 rfl rfl (gV (ak 1) 9 r_1.f_l) rfl wz (aa (vL eS r_14.1) ?_)))))))))))))))
      obtain ⟨y_40,hy_41,hF⟩:=bind_some hF
      refine eD fO rfl rfl hy_41 rfl wz (bK sz9 ag9 rfl (vS y_40) rfl wz (aa (vL eS r_14.1) ?_))
      obtain ⟨y_42,hy_43,hF⟩:=bind_some hF
      refine eD fO rfl rfl hy_43 rfl wz (bK sz9 ag9 rfl (vS y_42) rfl wz (aa (vI r_34) (aa (vL eI r_38.1) ?_)))
      obtain ⟨y_44,hy_45,hF⟩:=bind_some hF
      refine eD jZ rfl rfl hy_45 rfl wz (bK sz3 ag3 rfl (vI y_44) rfl wz (aa (vL eI r_38.1) ?_))
      obtain ⟨y_46,hy_47,hF⟩:=bind_some hF
      refine eD jZ rfl rfl hy_47 rfl wz (bK sz3 ag3 rfl (vI y_46) rfl wz (aa (vL eI r_38.1) ?_))
      obtain ⟨y_48,hy_49,hF⟩:=bind_some hF
      refine eD jZ rfl rfl hy_49 rfl wz (bK sz3 ag3 rfl (vI y_48) rfl wz (aH (.agg [(vS y_40),(vS y_42),(vI r_34),.nil,(vI y_44),(vI y_46),(vI y_48),.nil,(vS (⟨#[]⟩:ByteArray))]) wz (by kernel_rfl) (Lh [Alert.encN (⟨y_40,y_42,r_34,[],y_44,y_46,y_48,[],(⟨#[]⟩:ByteArray)⟩:Alert)] lJ IG rfl rfl rfl rfl wz ?_)))
      obtain ⟨a_50,hz_51,hF⟩:=bind_some hF
      refine Ll Alert.al (i:=1) (a:=(⟨y_40,y_42,r_34,[],y_44,y_46,y_48,[],(⟨#[]⟩:ByteArray)⟩:Alert)) rfl 23 (.inr (by kernel_rfl)) (λ_ _ ag=>⟨.inr (.inr (by kernel_rfl)),trivial⟩) Gg Gg iT z40 rfl by40 (by decide) rfl rfl rfl hz_51 wz (λn_52=>aa (.ref (ak 0) 0 0) (aG qH rfl 0 rfl wz (fe 26 (.inr (by kernel_rfl)) (λ_ _ ag=>⟨.inr (.inr (by kernel_rfl)),⟨.inr (.inr (by kernel_rfl)),trivial⟩⟩) 0 Cg rfl rfl [(gV n_52 9 a_50),(vI ((eX eqS (aO eqS (aO eqS (aO eqS ([]:List (ByteArray×Int)) (⟨#[97,108,101,114,116]⟩:ByteArray) 1) (⟨#[114,101,102]⟩:ByteArray) 2) (⟨#[97,114,101,97]⟩:ByteArray) 3) y_17).getD 0))] (xJ rfl) wz (ah (LX Alert.al (l:=r_1.f_l) (a:=(⟨y_40,y_42,r_34,[],y_44,y_46,y_48,[],(⟨#[]⟩:ByteArray)⟩:Alert)) (Alert.al.exA 1 r_1.f_l) (Alert.al.exB 1 r_1.f_l) 1 rfl rfl rfl hz_51 (DT (b':=gB 1 eS (aY Alert.Refs a_50)) 2 rfl (zX hz_51 rfl) (DT (b':=gB 4 Rect.enc (aY Alert.Areas a_50)) 3 rfl (zX hz_51 rfl) (aP (H0:=([((ak 0),some (.cells 2 [(gV n_52 9 a_50),(vI ((eX eqS (aO eqS (aO eqS (aO eqS ([]:List (ByteArray×Int)) (⟨#[97,108,101,114,116]⟩:ByteArray) 1) (⟨#[114,101,102]⟩:ByteArray) 2) (⟨#[97,114,101,97]⟩:ByteArray) 3) y_17).getD 0))])),(n_52,Alert.al.box a_50 (Alert.al.exA 1 r_1.f_l) (Alert.al.exB 1 r_1.f_l)),((Alert.al.exA 1 r_1.f_l),gB 1 eS (aY Alert.Refs a_50)),((Alert.al.exB 1 r_1.f_l),gB 4 Rect.enc (aY Alert.Areas a_50)),(n_16,some (bM D.str (D.int .i64) (aO eqS (aO eqS (aO eqS ([]:List (ByteArray×Int)) (⟨#[97,108,101,114,116]⟩:ByteArray) 1) (⟨#[114,101,102]⟩:ByteArray) 2) (⟨#[97,114,101,97]⟩:ByteArray) 3)))]:Hp)) ([(10,(vI r_34)),(12,(vB r_38.2))]:SL_) (by kernel_rfl) (qb (by kernel_rfl)) (au ?_)))))))))
      obtain ⟨v_53,h_54,hF⟩:=bind_some hF
      refine aN [(4,(vB v_53))] [((ak 0),some (.cells 2 [(gV n_52 9 a_50),(vI ((eX eqS (aO eqS (aO eqS (aO eqS ([]:List (ByteArray×Int)) (⟨#[97,108,101,114,116]⟩:ByteArray) 1) (⟨#[114,101,102]⟩:ByteArray) 2) (⟨#[97,114,101,97]⟩:ByteArray) 3) y_17).getD 0))])),(n_52,Alert.al.box a_50 (Alert.al.exA 1 r_1.f_l) (Alert.al.exB 1 r_1.f_l)),((Alert.al.exA 1 r_1.f_l),gB 1 eS (aY Alert.Refs a_50)),((Alert.al.exB 1 r_1.f_l),gB 4 Rect.enc (aY Alert.Areas a_50)),(n_16,some (bM D.str (D.int .i64) (aO eqS (aO eqS (aO eqS ([]:List (ByteArray×Int)) (⟨#[97,108,101,114,116]⟩:ByteArray) 1) (⟨#[114,101,102]⟩:ByteArray) 2) (⟨#[97,114,101,97]⟩:ByteArray) 3)))] ?_ ?_
      ·refine av (aa (vB r_38.2) ?_)
       rcases aj h_54 with⟨hc_55,h_54⟩|⟨hc_55,h_54⟩
       ·refine ay rfl hc_55 wz (aH (vI r_34) wa rfl (aH (vB (decide (r_34>0))) wa rfl (aa (vB (decide (r_34>0))) (aa (vB (decide (r_34>0))) (ah ?_)))))
        obtain rfl:=ae h_54
        exact cu
       ·refine ay rfl hc_55 wz (af (af (aa (vB false) (aa (vB false) (ah ?_)))))
        obtain rfl:=ae h_54
        exact cu
      ·rintro ⟨⟩ _ sl_ H_ hp_ hq_
       refine aP _ hp_ hq_ ?_
       obtain rfl:=ae hF
       refine ax ?_
       exact⟨.inr rfl,[(vB v_53)],n_52,(Alert.al.exA 1 r_1.f_l),(Alert.al.exB 1 r_1.f_l),1,2,3,⟨rfl,trivial⟩,rfl,rfl,rfl,rfl,rfl,⟨Nat.le_of_ble_eq_true rfl,Nat.le_of_ble_eq_true rfl,Nat.le_of_ble_eq_true rfl⟩,by decide,by decide,by decide⟩
     ·refine aB rfl hc_29 (au ?_)
      obtain ⟨v_56,h_57,hF⟩:=bind_some hF
      refine aN [(0,(.ref (ak 0) 0 0)),(7,(vL eS r_14.1)),(9,(vI ((eX eqS (aO eqS (aO eqS (aO eqS ([]:List (ByteArray×Int)) (⟨#[97,108,101,114,116]⟩:ByteArray) 1) (⟨#[114,101,102]⟩:ByteArray) 2) (⟨#[97,114,101,97]⟩:ByteArray) 3) y_17).getD 0))),(145,(vB v_56))] [((ak 0),some (.cells 2 [(gV (ak 1) 9 r_1.f_l),(vI ((eX eqS (aO eqS (aO eqS (aO eqS ([]:List (ByteArray×Int)) (⟨#[97,108,101,114,116]⟩:ByteArray) 1) (⟨#[114,101,102]⟩:ByteArray) 2) (⟨#[97,114,101,97]⟩:ByteArray) 3) y_17).getD 0))])),((ak 1),Alert.al.box r_1.f_l (Alert.al.exA 1 r_1.f_l) (Alert.al.exB 1 r_1.f_l)),((Alert.al.exA 1 r_1.f_l),gB 1 eS (aY Alert.Refs r_1.f_l)),((Alert.al.exB 1 r_1.f_l),gB 4 Rect.enc (aY Alert.Areas r_1.f_l)),(n_16,some (bM D.str (D.int .i64) (aO eqS (aO eqS (aO eqS ([]:List (ByteArray×Int)) (⟨#[97,108,101,114,116]⟩:ByteArray) 1) (⟨#[114,101,102]⟩:ByteArray) 2) (⟨#[97,114,101,97]⟩:ByteArray) 3)))] ?_ ?_
      ·refine av (aa (vI ((eX eqS (aO eqS (aO eqS (aO eqS ([]:List (ByteArray×Int)) (⟨#[97,108,101,114,116]⟩:ByteArray) 1) (⟨#[114,101,102]⟩:ByteArray) 2) (⟨#[97,114,101,97]⟩:ByteArray) 3) y_17).getD 0)) (aa (vB (((eX eqS (aO eqS (aO eqS (aO eqS ([]:List (ByteArray×Int)) (⟨#[97,108,101,114,116]⟩:ByteArray) 1) (⟨#[114,101,102]⟩:ByteArray) 2) (⟨#[97,114,101,97]⟩:ByteArray) 3) y_17).getD 0)==2)) ?_))
       rcases aj h_57 with⟨hc_58,h_57⟩|⟨hc_58,h_57⟩
       ·refine ay rfl hc_58 wz (aH (vL eS r_14.1) wa rfl (dz kQ rfl wa (aH (vB ((r_14.1.length:Int)==2)) wa rfl (aa (vB ((r_14.1.length:Int)==2)) (aa (vB ((r_14.1.length:Int)==2)) (ah ?_))))))
        obtain rfl:=ae h_57
        exact cu
       ·refine ay rfl hc_58 wz (af (af (af (aa (vB false) (aa (vB false) (ah ?_))))))
        obtain rfl:=ae h_57
        exact cu
      ·rintro ⟨⟩ _ sl_ H_ hp_ hq_
       refine aP _ hp_ hq_ ?_
       rcases aj hF with⟨hc_59,hF⟩|⟨hc_59,hF⟩
       ·refine aC rfl hc_59 (au (bQ (aa (.ref (ak 0) 0 0) (aa (.ref (ak 0) 0 0) (aG qH rfl 0 rfl wz (aI 3 0 (.inr (by kernel_rfl)) (λ_ _ ag=>trivial) Cg D6 rfl rfl (gV (ak 1) 9 r_1.f_l) rfl wz (aa (.ref (ak 0) 0 0) (aa (.ref (ak 0) 0 0) (aG qH rfl 0 rfl wz (aI 7 0 (.inr (by kernel_rfl)) (λ_ _ ag=>⟨.inl ⟨rfl,rfl⟩,trivial⟩) Cg D6 rfl rfl (gV (ak 1) 9 r_1.f_l) rfl wz (mo oK rfl wz (aa (vI (w64 ((r_1.f_l.length:Int)-1))) ?_))))))))))))
        obtain ⟨_,hi_60,hF⟩:=bind_some hF
        refine uI lJ rfl rfl (qA hi_60) (mg hi_60) wz (aa (.ref (ak 1) (0+((w64 ((r_1.f_l.length:Int)-1))).toNat) 0) (ah (au (bQ (aa (.ref (ak 1) (0+((w64 ((r_1.f_l.length:Int)-1))).toNat) 0) (aa (.ref (ak 1) (0+((w64 ((r_1.f_l.length:Int)-1))).toNat) 0) (aa (.ref (ak 1) (0+((w64 ((r_1.f_l.length:Int)-1))).toNat) 0) (aG iK rfl 3 rfl wz ?_))))))))
        obtain ⟨e_61,hy_62,hF⟩:=bind_some hF
        refine Bw Alert.al 4 1 (.inr (by kernel_rfl)) (λ_ _ ag=>trivial) oI uP rfl rfl hy_62 (gV (Alert.al.exA 1 r_1.f_l) 1 (aY Alert.Refs r_1.f_l)) rfl wz (aa (vL eS r_14.1) ?_)
        obtain ⟨y_63,hy_64,hF⟩:=bind_some hF
        refine eD fO rfl rfl hy_64 rfl wz (bK sz9 ag9 rfl (vS y_63) rfl wz (di (([y_63]:List ByteArray).map eS) fO nE rfl rfl rfl rfl rfl wz ?_))
        obtain ⟨a_65,hz_66,hF⟩:=bind_some hF
        refine lS 9 (.inr (by kernel_rfl)) (λ_ _ ag=>⟨.inr (.inr (by kernel_rfl)),trivial⟩) (i:=2) Cu Cu sz9 z9 rfl (by decide) by9 (by decide) (λ_=>rfl) rfl rfl rfl hz_66 wz (λn_67=>aa (.ref (ak 1) (0+((w64 ((r_1.f_l.length:Int)-1))).toNat) 0) (aG iK rfl 3 rfl wz ?_))
        obtain ⟨e_68,hy_69,hF⟩:=bind_some hF
        refine Dy Alert.al 12 (.inr (by kernel_rfl)) (λ_ _ ag=>⟨.inr (.inr (by kernel_rfl)),⟨.inr (.inr (by kernel_rfl)),trivial⟩⟩) 1 oI rfl rfl hy_69 (⟨e_68.Id,e_68.Sender,e_68.Kind,a_65,e_68.At,e_68.Until,e_68.Weight,e_68.Areas,e_68.Text⟩:Alert) n_67 (Alert.al.exB 1 r_1.f_l) (xJ rfl) wz (mJ (b':=gB 1 eS (aY Alert.Refs (setLast r_1.f_l (⟨e_68.Id,e_68.Sender,e_68.Kind,a_65,e_68.At,e_68.Until,e_68.Weight,e_68.Areas,e_68.Text⟩:Alert)))) 2 rfl (congrArg (gB 1 eS) (iV Alert.Refs r_1.f_l (⟨e_68.Id,e_68.Sender,e_68.Kind,a_65,e_68.At,e_68.Until,e_68.Weight,e_68.Areas,e_68.Text⟩:Alert)).symm) (mJ (b':=gB 4 Rect.enc (aY Alert.Areas (setLast r_1.f_l (⟨e_68.Id,e_68.Sender,e_68.Kind,a_65,e_68.At,e_68.Until,e_68.Weight,e_68.Areas,e_68.Text⟩:Alert)))) 3 rfl (congrArg (gB 4 Rect.enc) ((qp Alert.Areas hy_69).trans (iV Alert.Areas r_1.f_l (⟨e_68.Id,e_68.Sender,e_68.Kind,a_65,e_68.At,e_68.Until,e_68.Weight,e_68.Areas,e_68.Text⟩:Alert)).symm)) (fq (v':=(gV (ak 1) 9 (setLast r_1.f_l (⟨e_68.Id,e_68.Sender,e_68.Kind,a_65,e_68.At,e_68.Until,e_68.Weight,e_68.Areas,e_68.Text⟩:Alert)))) 156 rfl (cB (eG _ hy_69)) (fq (v':=(gV (ak 1) 9 (setLast r_1.f_l (⟨e_68.Id,e_68.Sender,e_68.Kind,a_65,e_68.At,e_68.Until,e_68.Weight,e_68.Areas,e_68.Text⟩:Alert)))) 160 rfl (cB (eG _ hy_69)) (mJ (b':=some (.cells 2 [(gV (ak 1) 9 (setLast r_1.f_l (⟨e_68.Id,e_68.Sender,e_68.Kind,a_65,e_68.At,e_68.Until,e_68.Weight,e_68.Areas,e_68.Text⟩:Alert))),(vI ((eX eqS (aO eqS (aO eqS (aO eqS ([]:List (ByteArray×Int)) (⟨#[97,108,101,114,116]⟩:ByteArray) 1) (⟨#[114,101,102]⟩:ByteArray) 2) (⟨#[97,114,101,97]⟩:ByteArray) 3) y_17).getD 0))])) 0 rfl (congrArg (λv_=>some (Box.cells 2 [v_,(vI ((eX eqS (aO eqS (aO eqS (aO eqS ([]:List (ByteArray×Int)) (⟨#[97,108,101,114,116]⟩:ByteArray) 1) (⟨#[114,101,102]⟩:ByteArray) 2) (⟨#[97,114,101,97]⟩:ByteArray) 3) y_17).getD 0))])) (cB (eG _ hy_69))) (ah (ai (aa (vB true) (ah ?_)))))))))
        obtain rfl:=ae hF
        refine ax ?_
        exact⟨.inr rfl,[(vB true)],(ak 1),n_67,(Alert.al.exB 1 r_1.f_l),1,2,3,⟨rfl,trivial⟩,rfl,rfl,rfl,rfl,rfl,⟨Nat.le_of_ble_eq_true rfl,Nat.le_of_ble_eq_true rfl,Nat.le_of_ble_eq_true rfl⟩,by decide,by decide,by decide⟩
       ·refine aB rfl hc_59 (au ?_)
        obtain ⟨v_70,h_71,hF⟩:=bind_some hF
        refine aN [(0,(.ref (ak 0) 0 0)),(7,(vL eS r_14.1)),(176,(vB v_70))] [((ak 0),some (.cells 2 [(gV (ak 1) 9 r_1.f_l),(vI ((eX eqS (aO eqS (aO eqS (aO eqS ([]:List (ByteArray×Int)) (⟨#[97,108,101,114,116]⟩:ByteArray) 1) (⟨#[114,101,102]⟩:ByteArray) 2) (⟨#[97,114,101,97]⟩:ByteArray) 3) y_17).getD 0))])),((ak 1),Alert.al.box r_1.f_l (Alert.al.exA 1 r_1.f_l) (Alert.al.exB 1 r_1.f_l)),((Alert.al.exA 1 r_1.f_l),gB 1 eS (aY Alert.Refs r_1.f_l)),((Alert.al.exB 1 r_1.f_l),gB 4 Rect.enc (aY Alert.Areas r_1.f_l)),(n_16,some (bM D.str (D.int .i64) (aO eqS (aO eqS (aO eqS ([]:List (ByteArray×Int)) (⟨#[97,108,101,114,116]⟩:ByteArray) 1) (⟨#[114,101,102]⟩:ByteArray) 2) (⟨#[97,114,101,97]⟩:ByteArray) 3)))] ?_ ?_
        ·refine av (aa (vI ((eX eqS (aO eqS (aO eqS (aO eqS ([]:List (ByteArray×Int)) (⟨#[97,108,101,114,116]⟩:ByteArray) 1) (⟨#[114,101,102]⟩:ByteArray) 2) (⟨#[97,114,101,97]⟩:ByteArray) 3) y_17).getD 0)) (aa (vB (((eX eqS (aO eqS (aO eqS (aO eqS ([]:List (ByteArray×Int)) (⟨#[97,108,101,114,116]⟩:ByteArray) 1) (⟨#[114,101,102]⟩:ByteArray) 2) (⟨#[97,114,101,97]⟩:ByteArray) 3) y_17).getD 0)==3)) ?_))
         rcases aj h_71 with⟨hc_72,h_71⟩|⟨hc_72,h_71⟩
         ·refine ay rfl hc_72 wz (aH (vL eS r_14.1) wa rfl (dz kQ rfl wa (aH (vB ((r_14.1.length:Int)==5)) wa rfl (aa (vB ((r_14.1.length:Int)==5)) (aa (vB ((r_14.1.length:Int)==5)) (ah ?_))))))
          obtain rfl:=ae h_71
          exact cu
         ·refine ay rfl hc_72 wz (af (af (af (aa (vB false) (aa (vB false) (ah ?_))))))
          obtain rfl:=ae h_71
          exact cu
        ·rintro ⟨⟩ _ sl_ H_ hp_ hq_
         refine aP _ hp_ hq_ ?_
         rcases aj hF with⟨hc_73,hF⟩|⟨hc_73,hF⟩
         ·refine aC rfl hc_73 (ai (aa (vL eS r_14.1) ?_))
          obtain ⟨y_74,hy_75,hF⟩:=bind_some hF
          refine lH kQ sz9 (λ_=>rfl) rfl rfl hy_75 wz ?_
          obtain ⟨r_76,hr_77,hF⟩:=bind_some hF
          refine aD (rE hr_77) rfl hb62 rfl rfl rfl rfl wz (aa (.tup [(vL eI r_76.1),(vB r_76.2)]) (aa (vL eI r_76.1) (aa (vB r_76.2) (aa (vL eI r_76.1) (aa (vB r_76.2) (ah (au (bQ (aa (.ref (ak 0) 0 0) (aa (.ref (ak 0) 0 0) (aG qH rfl 0 rfl wz (aI 3 0 (.inr (by kernel_rfl)) (λ_ _ ag=>trivial) Cg D6 rfl rfl (gV (ak 1) 9 r_1.f_l) rfl wz (aa (.ref (ak 0) 0 0) (aa (.ref (ak 0) 0 0) (aG qH rfl 0 rfl wz (aI 7 0 (.inr (by kernel_rfl)) (λ_ _ ag=>⟨.inl ⟨rfl,rfl⟩,trivial⟩) Cg D6 rfl rfl (gV (ak 1) 9 r_1.f_l) rfl wz (mo oK rfl wz (aa (vI (w64 ((r_1.f_l.length:Int)-1))) ?_))))))))))))))))))
          obtain ⟨_,hi_78,hF⟩:=bind_some hF
          refine uI lJ rfl rfl (qA hi_78) (mg hi_78) wz (aa (.ref (ak 1) (0+((w64 ((r_1.f_l.length:Int)-1))).toNat) 0) (ah (au (bQ (aa (.ref (ak 1) (0+((w64 ((r_1.f_l.length:Int)-1))).toNat) 0) (aa (.ref (ak 1) (0+((w64 ((r_1.f_l.length:Int)-1))).toNat) 0) (aa (.ref (ak 1) (0+((w64 ((r_1.f_l.length:Int)-1))).toNat) 0) (aG jE rfl 7 rfl wz ?_))))))))
          obtain ⟨e_79,hy_80,hF⟩:=bind_some hF
          refine Bw Alert.al 4 1 (.inr (by kernel_rfl)) (λ_ _ ag=>trivial) rR xZ rfl rfl hy_80 (gV (Alert.al.exB 1 r_1.f_l) 4 (aY Alert.Areas r_1.f_l)) rfl wz (aa (vL eI r_76.1) ?_)
          obtain ⟨y_81,hy_82,hF⟩:=bind_some hF
          refine eD jZ rfl rfl hy_82 rfl wz (bK sz3 ag3 rfl (vI y_81) rfl wz (aa (vL eI r_76.1) ?_))
          obtain ⟨y_83,hy_84,hF⟩:=bind_some hF
          refine eD jZ rfl rfl hy_84 rfl wz (bK sz3 ag3 rfl (vI y_83) rfl wz (aa (vL eI r_76.1) ?_))
          obtain ⟨y_85,hy_86,hF⟩:=bind_some hF
          refine eD jZ rfl rfl hy_86 rfl wz (bK sz3 ag3 rfl (vI y_85) rfl wz (aa (vL eI r_76.1) ?_))
          obtain ⟨y_87,hy_88,hF⟩:=bind_some hF
          refine eD jZ rfl rfl hy_88 rfl wz (bK sz3 ag3 rfl (vI y_87) rfl wz (aH (.d (.agg (Rect.enc (⟨y_81,y_83,y_85,y_87⟩:Rect)))) wz (by kernel_rfl) (di (([(⟨y_81,y_83,y_85,y_87⟩:Rect)]:List Rect).map Rect.enc) Au J2 rfl rfl rfl rfl rfl wz ?_)))
          obtain ⟨a_89,hz_90,hF⟩:=bind_some hF
          refine lS 19 (.inr (by kernel_rfl)) (λ_ _ ag=>⟨.inr (.inr (by kernel_rfl)),trivial⟩) (i:=3) Ci Ci nW z64 rfl (by decide) MV (by decide) (λ_=>rfl) rfl rfl rfl hz_90 wz (λn_91=>aa (.ref (ak 1) (0+((w64 ((r_1.f_l.length:Int)-1))).toNat) 0) (aG jE rfl 7 rfl wz ?_))
          obtain ⟨e_92,hy_93,hF⟩:=bind_some hF
          refine Dy Alert.al 22 (.inr (by kernel_rfl)) (λ_ _ ag=>⟨.inr (.inr (by kernel_rfl)),⟨.inr (.inr (by kernel_rfl)),trivial⟩⟩) 1 rR rfl rfl hy_93 (⟨e_92.Id,e_92.Sender,e_92.Kind,e_92.Refs,e_92.At,e_92.Until,e_92.Weight,a_89,e_92.Text⟩:Alert) (Alert.al.exA 1 r_1.f_l) n_91 (xJ rfl) wz (mJ (b':=gB 1 eS (aY Alert.Refs (setLast r_1.f_l (⟨e_92.Id,e_92.Sender,e_92.Kind,e_92.Refs,e_92.At,e_92.Until,e_92.Weight,a_89,e_92.Text⟩:Alert)))) 2 rfl (congrArg (gB 1 eS) ((qp Alert.Refs hy_93).trans (iV Alert.Refs r_1.f_l (⟨e_92.Id,e_92.Sender,e_92.Kind,e_92.Refs,e_92.At,e_92.Until,e_92.Weight,a_89,e_92.Text⟩:Alert)).symm)) (mJ (b':=gB 4 Rect.enc (aY Alert.Areas (setLast r_1.f_l (⟨e_92.Id,e_92.Sender,e_92.Kind,e_92.Refs,e_92.At,e_92.Until,e_92.Weight,a_89,e_92.Text⟩:Alert)))) 3 rfl (congrArg (gB 4 Rect.enc) (iV Alert.Areas r_1.f_l (⟨e_92.Id,e_92.Sender,e_92.Kind,e_92.Refs,e_92.At,e_92.Until,e_92.Weight,a_89,e_92.Text⟩:Alert)).symm) (fq (v':=(gV (ak 1) 9 (setLast r_1.f_l (⟨e_92.Id,e_92.Sender,e_92.Kind,e_92.Refs,e_92.At,e_92.Until,e_92.Weight,a_89,e_92.Text⟩:Alert)))) 193 rfl (cB (eG _ hy_93)) (fq (v':=(gV (ak 1) 9 (setLast r_1.f_l (⟨e_92.Id,e_92.Sender,e_92.Kind,e_92.Refs,e_92.At,e_92.Until,e_92.Weight,a_89,e_92.Text⟩:Alert)))) 197 rfl (cB (eG _ hy_93)) (mJ (b':=some (.cells 2 [(gV (ak 1) 9 (setLast r_1.f_l (⟨e_92.Id,e_92.Sender,e_92.Kind,e_92.Refs,e_92.At,e_92.Until,e_92.Weight,a_89,e_92.Text⟩:Alert))),(vI ((eX eqS (aO eqS (aO eqS (aO eqS ([]:List (ByteArray×Int)) (⟨#[97,108,101,114,116]⟩:ByteArray) 1) (⟨#[114,101,102]⟩:ByteArray) 2) (⟨#[97,114,101,97]⟩:ByteArray) 3) y_17).getD 0))])) 0 rfl (congrArg (λv_=>some (Box.cells 2 [v_,(vI ((eX eqS (aO eqS (aO eqS (aO eqS ([]:List (ByteArray×Int)) (⟨#[97,108,101,114,116]⟩:ByteArray) 1) (⟨#[114,101,102]⟩:ByteArray) 2) (⟨#[97,114,101,97]⟩:ByteArray) 3) y_17).getD 0))])) (cB (eG _ hy_93))) (ah (aP (H0:=([((ak 0),some (.cells 2 [(gV (ak 1) 9 (setLast r_1.f_l (⟨e_92.Id,e_92.Sender,e_92.Kind,e_92.Refs,e_92.At,e_92.Until,e_92.Weight,a_89,e_92.Text⟩:Alert))),(vI ((eX eqS (aO eqS (aO eqS (aO eqS ([]:List (ByteArray×Int)) (⟨#[97,108,101,114,116]⟩:ByteArray) 1) (⟨#[114,101,102]⟩:ByteArray) 2) (⟨#[97,114,101,97]⟩:ByteArray) 3) y_17).getD 0))])),((ak 1),Alert.al.box (setLast r_1.f_l (⟨e_92.Id,e_92.Sender,e_92.Kind,e_92.Refs,e_92.At,e_92.Until,e_92.Weight,a_89,e_92.Text⟩:Alert)) (Alert.al.exA 1 r_1.f_l) n_91),((Alert.al.exA 1 r_1.f_l),gB 1 eS (aY Alert.Refs (setLast r_1.f_l (⟨e_92.Id,e_92.Sender,e_92.Kind,e_92.Refs,e_92.At,e_92.Until,e_92.Weight,a_89,e_92.Text⟩:Alert)))),(n_91,gB 4 Rect.enc (aY Alert.Areas (setLast r_1.f_l (⟨e_92.Id,e_92.Sender,e_92.Kind,e_92.Refs,e_92.At,e_92.Until,e_92.Weight,a_89,e_92.Text⟩:Alert)))),(n_16,some (bM D.str (D.int .i64) (aO eqS (aO eqS (aO eqS ([]:List (ByteArray×Int)) (⟨#[97,108,101,114,116]⟩:ByteArray) 1) (⟨#[114,101,102]⟩:ByteArray) 2) (⟨#[97,114,101,97]⟩:ByteArray) 3)))]:Hp)) ([(15,(vB r_76.2))]:SL_) (by kernel_rfl) (qb (by kernel_rfl)) (ai (aa (vB r_76.2) (aa (vB r_76.2) (ah ?_)))))))))))
          obtain rfl:=ae hF
          refine ax ?_
          exact⟨.inr rfl,[(vB r_76.2)],(ak 1),(Alert.al.exA 1 r_1.f_l),n_91,1,2,3,⟨rfl,trivial⟩,rfl,rfl,rfl,rfl,rfl,⟨Nat.le_of_ble_eq_true rfl,Nat.le_of_ble_eq_true rfl,Nat.le_of_ble_eq_true rfl⟩,by decide,by decide,by decide⟩
         ·refine aB rfl hc_73 (aA (ai (aa (vB false) (ah ?_))))
          obtain rfl:=ae hF
          refine ax ?_
          exact⟨.inr rfl,[(vB false)],(ak 1),(Alert.al.exA 1 r_1.f_l),(Alert.al.exB 1 r_1.f_l),1,2,3,⟨rfl,trivial⟩,rfl,rfl,rfl,rfl,rfl,⟨Nat.le_of_ble_eq_true rfl,Nat.le_of_ble_eq_true rfl,Nat.le_of_ble_eq_true rfl⟩,by decide,by decide,by decide⟩
theorem DR {text_1:ByteArray} {take_2:AlertReader} {r:Int×Bool×AlertReader} (hF:qV text_1 take_2=some r) :
  Im Alert.al Tryz.prog 34 [(vS text_1),(.fn (35+1000000000) [.ref (ak 0) 0 0])] [.cells 2 [(gV (ak 1) 9 take_2.f_l),(vI take_2.f_rank)]] (λv_=>[.cells 2 [v_,(vI r.2.2.f_rank)]]) take_2.f_l r.2.2.f_l (λ_=>(.tup [(vI r.1),(vB r.2.1)])):=by
 refine FnM.of_wHal Alert.al ⟨Tryz.prog,30,[],[]⟩ rfl Tryz.func34 rfl rfl (lb_ rfl) (by kernel_rfl) (λ_ _=>rfl) (λ_ _ _=>rfl) (λ_=>rfl) (λ_ _=>rfl) (λ_ _ h_=>Dp h_) ?_
 unfold qV at hF
 show wH _ _ _ _ ([((ak 0),some (.cells 2 [(gV (ak 1) 9 take_2.f_l),(vI take_2.f_rank)])),((ak 1),Alert.al.box take_2.f_l (Alert.al.exA 1 take_2.f_l) (Alert.al.exB 1 take_2.f_l)),((Alert.al.exA 1 take_2.f_l),gB 1 eS (aY Alert.Refs take_2.f_l)),((Alert.al.exB 1 take_2.f_l),gB 4 Rect.enc (aY Alert.Areas take_2.f_l))]:Hp)
 refine ai (aa (vI 0) (aa (vB false) (ah (au (ai (aa (vI 0) (ah ?_)))))))
 obtain ⟨o_17,hj_18,hF⟩:=bind_some hF
 obtain ⟨nq_34,hj_18⟩:=lU hj_18
 refine Ls (σ:=(List Alert)×ByteArray×Int×Int) (N:=Nm×Nm×Nm) (λp=>(λ(s_8:(List Alert)×ByteArray×Int×Int) (n_12:Nm) (n_13:Nm) (n_14:Nm)=>([]:SL_)) p.1 p.2.1 p.2.2.1 p.2.2.2) (λp=>(λ(s_8:(List Alert)×ByteArray×Int×Int) (n_12:Nm) (n_13:Nm) (n_14:Nm)=>([((ak 0),some (.cells 2 [(gV n_12 9 s_8.1),(vI s_8.2.2.2)])),(n_12,Alert.al.box s_8.1 n_13 n_14),(n_13,gB 1 eS (aY Alert.Refs s_8.1)),(n_14,gB 4 Rect.enc (aY Alert.Areas s_8.1))]:Hp)) p.1 p.2.1 p.2.2.1 p.2.2.2) (λ(k_3:Nat)=>(λp=>(λ(s_8:(List Alert)×ByteArray×Int×Int) (n_12:Nm) (n_13:Nm) (n_14:Nm)=>([(0,(vS s_8.2.1)),(1,(.fn (35+1000000000) [(.ref (ak 0) 0 0)])),(6,(vI s_8.2.2.1))]:SL_)) p.1 p.2.1 p.2.2.1 p.2.2.2)) (λs=>fD s) o_17 nq_34 ((take_2.f_l,text_1,0,take_2.f_rank),(ak 1),(Alert.al.exA 1 take_2.f_l),(Alert.al.exB 1 take_2.f_l)) hj_18 rfl (aM rfl) ?_ ?_
 ·rintro ⟨k_3,s_8,n_12,n_13,n_14⟩ hL_16
  dsimp only at hL_16
  cases k_3 with
  | zero=>cases hL_16
  | succ k_3 =>
   obtain ⟨c_,hc_15,hL_16⟩:=bind_some hL_16
   unfold fD at hc_15
   refine au (ai (aa (vS s_8.2.1) (aa (vB (sNe s_8.2.1 (⟨#[]⟩:ByteArray))) (ah ?_))))
   rcases aj hc_15 with⟨hc_19,hc_15⟩|⟨hc_19,hc_15⟩
   ·refine aC rfl hc_19 (aA (au (aR (ai (aa (vS s_8.2.1) ?_)))))
    obtain ⟨r_20,hr_21,hc_15⟩:=bind_some hc_15
    refine aD (BG hr_21) rfl hb60 rfl rfl rfl rfl wz (aa (.tup [(vS r_20.1),(vS r_20.2.1),(vB r_20.2.2)]) (aa (vS r_20.1) (aa (vS r_20.2.1) (aa (vB r_20.2.2) (aa (vS r_20.1) (aa (vS r_20.2.1) (aa (vB r_20.2.2) (ah (au (au ?_))))))))))
    obtain ⟨v_22,h_23,hc_15⟩:=bind_some hc_15
    refine lG (β:=Nm×Nm×Nm) (λp=>(λ(n_24:Nm) (n_25:Nm) (n_26:Nm)=>([(1,(.fn (35+1000000000) [(.ref (ak 0) 0 0)])),(6,(vI s_8.2.2.1)),(8,(vS r_20.2.1)),(27,(vB v_22.2.1))]:SL_)) p.1 p.2.1 p.2.2) (λp=>(λ(n_24:Nm) (n_25:Nm) (n_26:Nm)=>([((ak 0),some (.cells 2 [(gV n_24 9 v_22.1),(vI v_22.2.2)])),(n_24,Alert.al.box v_22.1 n_25 n_26),(n_25,gB 1 eS (aY Alert.Refs v_22.1)),(n_26,gB 4 Rect.enc (aY Alert.Areas v_22.1))]:Hp)) p.1 p.2.1 p.2.2) (λ_=>True) ?_ ?_
    ·refine av (aa (vB r_20.2.2) (aa (vB (!r_20.2.2)) ?_))
     rcases aj h_23 with⟨hc_27,h_23⟩|⟨hc_27,h_23⟩
     ·refine ay rfl hc_27 wz (af (af (af (af (aa (vB true) (ah ?_))))))
      obtain rfl:=ae h_23
      exact bD (n_12,n_13,n_14) trivial rfl (aM rfl)
     ·refine ay rfl hc_27 wz (aH (.fn (35+1000000000) [(.ref (ak 0) 0 0)]) wa rfl (aH (vS r_20.1) wa rfl ?_))
      obtain ⟨r_28,hr_29,h_23⟩:=bind_some h_23
      refine A8 Alert.al (lb:=[((ak 0),.cells 2 [(gV n_12 9 s_8.1),(vI s_8.2.2.2)])]) [0] 1 2 3 (rq hr_29) (λ_ _=>rfl) (λ_ _ _=>rfl) (λ_=>rfl) (λ_ _=>rfl) (λ_ _ h_=>Dp h_) (cd_fnb rfl hb35) rfl rfl rfl rfl rfl (by decide) (λ_ _ h_=>al_s h_) (λ_ h_ _=>Dp h_) (λ_ h_=>(List.not_mem_nil h_).elim) (λ_ h_ _=>al_a1 h_) (λ_ _ h_=>al_o1 h_) wa (λn_30 n_31 n_32=>Lx (H0:=([((ak 0),some (.cells 2 [(gV n_30 9 r_28.2.f_l),(vI r_28.2.f_rank)])),(n_12,none),(n_13,none),(n_14,none),(n_30,Alert.al.box r_28.2.f_l n_31 n_32),(n_31,gB 1 eS (aY Alert.Refs r_28.2.f_l)),(n_32,gB 4 Rect.enc (aY Alert.Areas r_28.2.f_l))]:Hp)) rfl (fq (v':=(vB r_28.1)) 25 rfl rfl (aH (vB (!r_28.1)) wa rfl (aa (vB (!r_28.1)) (ah ?_)))))
      obtain rfl:=ae h_23
      exact bD (n_30,n_31,n_32) trivial rfl (Mw [0,4,5,6] (by decide) rfl)
    ·rintro ⟨n_24,n_25,n_26⟩ _ sl_ H_ hp_ hq_
     refine aP _ hp_ hq_ ?_
     rcases aj hc_15 with⟨hc_33,hc_15⟩|⟨hc_33,hc_15⟩
     ·refine aC rfl hc_33 (ai (aa (vI s_8.2.2.1) (aa (vI s_8.2.2.1) (aa (vB false) (ah ?_)))))
      obtain rfl:=ae hc_15
      obtain rfl:=ae hL_16
      obtain rfl:=ae hF
      refine ax ?_
      exact⟨.inr rfl,[(vI s_8.2.2.1),(vB false)],n_24,n_25,n_26,1,2,3,⟨rfl,⟨rfl,trivial⟩⟩,rfl,rfl,rfl,rfl,rfl,⟨Nat.le_of_ble_eq_true rfl,Nat.le_of_ble_eq_true rfl,Nat.le_of_ble_eq_true rfl⟩,by decide,by decide,by decide⟩
     ·refine aB rfl hc_33 (aA (av (aa (vS r_20.2.1) (aa (vS r_20.2.1) (ah (av (aa (vI s_8.2.2.1) (aa (vI (w64 (s_8.2.2.1+1))) (aa (vI (w64 (s_8.2.2.1+1))) (ah ?_))))))))))
      obtain rfl:=ae hc_15
      exact bN (k_3,(v_22.1,r_20.2.1,(w64 (s_8.2.2.1+1)),v_22.2.2),n_24,n_25,n_26) hL_16 (ls_ _) rfl (aM rfl)
   ·refine aB rfl hc_19 (bO ?_)
    obtain rfl:=ae hc_15
    obtain rfl:=ae hL_16
    exact bD ((s_8.1,s_8.2.1,s_8.2.2.1,s_8.2.2.2),n_12,n_13,n_14) rfl rfl (aM rfl)
 ·rintro ⟨s_8,n_12,n_13,n_14⟩ ho_ sl_ H_ hp_ hq_
  subst ho_
  refine aP _ hp_ hq_ (ai (aa (vI 0) (aa (vB true) (ah ?_))))
  obtain rfl:=ae hF
  refine ax ?_
  exact⟨.inr rfl,[(vI 0),(vB true)],n_12,n_13,n_14,1,2,3,⟨rfl,⟨rfl,trivial⟩⟩,rfl,rfl,rfl,rfl,rfl,⟨Nat.le_of_ble_eq_true rfl,Nat.le_of_ble_eq_true rfl,Nat.le_of_ble_eq_true rfl⟩,by decide,by decide,by decide⟩
end Go.Proofs.YtljhfffghjclfaaGreatDoor.Law

