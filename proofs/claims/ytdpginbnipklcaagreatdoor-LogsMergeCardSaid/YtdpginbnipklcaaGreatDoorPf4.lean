/-
 The machine computes these plain functions (written by a program of ours).
-/
import Derived.Test.YtdpginbnipklcaaGreatDoorFacts
import Derived.Test.YtdpginbnipklcaaGreatDoorDefs
import Derived.Test.YtdpginbnipklcaaGreatDoorPf3
import Derived.Test.YtdpginbnipklcaaGreatDoorShelf
open Go Go.Eng Go.Proofs
namespace Go.Proofs.YtdpginbnipklcaaGreatDoor.Law
set_option maxRecDepth 100000
set_option linter.unusedVariables false
set_option maxHeartbeats 1000000
theorem nK {x_1:Int} {r:Bool} (hF:iq x_1=some r) :
  FnM Tryz.prog 111 [(vI x_1)] [] (vB r) []:=by
 refine FnM.of_wH ⟨Tryz.prog,8,[],[]⟩ rfl Tryz.func111 rfl rfl (lb_ rfl) (by kernel_rfl) ?_
 unfold iq at hF
 refine aj (aa (vB false) (af (aj (aa (vI x_1) (aa (vI x_1) (aa (vI (w64 (x_1-1))) (aa (vI (Dv .i64 x_1 (w64 (x_1-1)))) (aa (vB ((Dv .i64 x_1 (w64 (x_1-1)))==0)) (aa (vB ((Dv .i64 x_1 (w64 (x_1-1)))==0)) (af ?_))))))))))
 obtain rfl:=ae hF
 exact aN (bz [(vB ((Dv .i64 x_1 (w64 (x_1-1)))==0))] ⟨rfl,trivial⟩)
theorem pI {x0:Int} {r:Int} (hF:kU x0=some r) :
  FnM Tryz.prog 112 [(.d (.int .u64 x0))] [] (vI r) [] :=
 tz_ok db_g Tryz.bits_TrailingZeros laid_db hF
theorem nW {dst_1:(List Int)} {u_2:Int} {base_3:Int} {neg_4:Bool} {append_5:Bool} {r:(List Int)×ByteArray} (hF:ed dst_1 u_2 base_3 neg_4 append_5=some r) :
  FnM Tryz.prog 97 [(vL (eK .u8) dst_1),(.d (.int .u64 u_2)),(vI base_3),(vB neg_4),(vB append_5)] [] (.tup [(vL (eK .u8) r.1),(vS r.2)]) []:=by
 refine FnM.of_wH ⟨Tryz.prog,102,[],[]⟩ rfl Tryz.func97 rfl rfl (lb_ rfl) (by kernel_rfl) ?_
 unfold ed at hF
 refine aj (aa .nil (aa (vS (⟨#[]⟩:ByteArray)) (af (au (au ?_)))))
 obtain ⟨v_6,h_7,hF⟩:=bind_some hF
 refine aH [(0,(vL (eK .u8) dst_1)),(1,(.d (.int .u64 u_2))),(2,(vI base_3)),(3,(vB neg_4)),(4,(vB append_5)),(10,.nil),(11,(vS (⟨#[]⟩:ByteArray))),(28,(vB v_6))] [] ?_ ?_
 ·refine av (aa (vI base_3) (aa (vB (decide (base_3<2))) ?_))
  rcases ah h_7 with⟨hc_8,h_7⟩|⟨hc_8,h_7⟩
  ·refine aD rfl hc_8 wz (ai (ai (aa (vB true) (aa (vB true) (ai (ai (aa (vB true) (af ?_))))))))
   obtain rfl:=ae h_7
   exact cu
  ·refine aD rfl hc_8 wz (aL (vI base_3) wa rfl (aL (vB (base_3==10)) wa rfl (aa (vB (base_3==10)) ?_)))
   rcases ah h_7 with⟨hc_9,h_7⟩|⟨hc_9,h_7⟩
   ·refine aD rfl hc_9 wz (ai (ai (aa (vB true) (af ?_))))
    obtain rfl:=ae h_7
    exact cu
   ·refine aD rfl hc_9 wz (aL (vI base_3) wa rfl (aL (vB (decide (base_3>36))) wa rfl (aa (vB (decide (base_3>36))) (af ?_))))
    obtain rfl:=ae h_7
    exact cu
 ·rintro ⟨⟩ _ sl_ H_ hp_ hq_
  refine aJ _ hp_ hq_ ?_
  obtain ⟨v_10,h_11,hF⟩:=bind_some hF
  refine aH [(0,(vL (eK .u8) dst_1)),(1,(.d (.int .u64 u_2))),(2,(vI base_3)),(3,(vB neg_4)),(4,(vB append_5)),(10,.nil),(11,(vS (⟨#[]⟩:ByteArray)))] [] ?_ ?_
  ·rcases ah h_11 with⟨hc_12,h_11⟩|⟨hc_12,h_11⟩
   ·refine aB rfl hc_12 (av ?_)
    cases h_11
   ·refine aA rfl hc_12 (ay ?_)
    obtain rfl:=ae h_11
    exact cu
  ·rintro ⟨⟩ _ sl_ H_ hp_ hq_
   refine aJ _ hp_ hq_ (aj (EE (List.replicate 65 (0:Int)) 0 (.inl rfl) z130 (by kernel_rfl) (by kernel_rfl) xO wz (λn_13=>af (aj (aa (vI 65) (af (au (aj (aa (vB neg_4) (af ?_))))))))))
   obtain ⟨v_14,h_15,hF⟩:=bind_some hF
   refine aH [(0,(vL (eK .u8) dst_1)),(1,(.d (.int .u64 v_14))),(2,(vI base_3)),(3,(vB neg_4)),(4,(vB append_5)),(10,.nil),(11,(vS (⟨#[]⟩:ByteArray))),(12,(.ref n_13 0 0)),(13,(vI 65))] [(n_13,some (bV 1 (eK .u8) (List.replicate 65 (0:Int))))] ?_ ?_
   ·rcases ah h_15 with⟨hc_16,h_15⟩|⟨hc_16,h_15⟩
    ·refine aB rfl hc_16 (av (aa (.d (.int .u64 u_2)) (aa (.d (.int .u64 (IntKind.u64.wrap (0-u_2)))) (aa (.d (.int .u64 (IntKind.u64.wrap (0-u_2)))) (af ?_)))))
     obtain rfl:=ae h_15
     exact cu
    ·refine aA rfl hc_16 (ay ?_)
     obtain rfl:=ae h_15
     exact cu
   ·rintro ⟨⟩ _ sl_ H_ hp_ hq_
    refine aJ _ hp_ hq_ (au (aj (aa (vI base_3) ?_)))
    obtain ⟨r_17,hr_18,hF⟩:=bind_some hF
    refine aG (nK hr_18) rfl hb111 rfl rfl rfl rfl wz (af ?_)
    obtain ⟨v_19,h_20,hF⟩:=bind_some hF
    refine aH [(0,(vL (eK .u8) dst_1)),(3,(vB neg_4)),(4,(vB append_5)),(10,.nil),(11,(vS (⟨#[]⟩:ByteArray))),(12,(.ref n_13 0 0)),(13,(vI v_19.2))] [(n_13,some (bV 1 (eK .u8) v_19.1))] ?_ ?_
    ·rcases ah h_20 with⟨hc_21,h_20⟩|⟨hc_21,h_20⟩
     ·refine aB rfl hc_21 (aj (aa (vI base_3) (bB un3 ib rfl wz ?_)))
      obtain ⟨r_22,hr_23,h_20⟩:=bind_some h_20
      refine aG (pI hr_23) rfl hb112 rfl rfl rfl rfl wz (bB un3 ib rfl wz (aa (.d (.int .u64 (IntKind.u64.wrap r_22))) (af (aj (aa (vI base_3) (bB un3 IP rfl wz (aa (.d (.int .u64 (IntKind.u64.wrap base_3))) (af (aj (aa (vI base_3) (bB un3 ib rfl wz (aa (.d (.int .u64 (IntKind.u64.wrap ((IntKind.u64.wrap base_3)-1)))) (aa (.d (.int .u64 (IntKind.u64.wrap ((IntKind.u64.wrap base_3)-1)))) (af (au ?_)))))))))))))))
      obtain ⟨o_32,hj_33,h_20⟩:=bind_some h_20
      obtain ⟨nq_47,hj_33⟩:=aP hj_33
      refine aU (λ(s_29:(List Int)×Int×Int)=>[(0,(vL (eK .u8) dst_1)),(1,(.d (.int .u64 s_29.2.1))),(3,(vB neg_4)),(4,(vB append_5)),(10,.nil),(11,(vS (⟨#[]⟩:ByteArray))),(12,(.ref n_13 0 0)),(13,(vI s_29.2.2))]) (λ(s_29:(List Int)×Int×Int)=>[(n_13,some (bV 1 (eK .u8) s_29.1))]) (λ(k_24:Nat)=>(λ(s_29:(List Int)×Int×Int)=>[(0,(vL (eK .u8) dst_1)),(1,(.d (.int .u64 s_29.2.1))),(3,(vB neg_4)),(4,(vB append_5)),(10,.nil),(11,(vS (⟨#[]⟩:ByteArray))),(12,(.ref n_13 0 0)),(13,(vI s_29.2.2)),(14,(.d (.int .u64 (IntKind.u64.wrap r_22)))),(15,(.d (.int .u64 (IntKind.u64.wrap base_3)))),(16,(.d (.int .u64 (IntKind.u64.wrap ((IntKind.u64.wrap base_3)-1)))))])) (λs=>bK base_3 r_22 s) o_32 nq_47 ((List.replicate 65 (0:Int)),v_14,65) hj_33 rfl (aC rfl) ?_ ?_
      ·rintro ⟨k_24,s_29⟩ hL_31
       dsimp only at hL_31
       cases k_24 with
       | zero=>cases hL_31
       | succ k_24 =>
        obtain ⟨c_,hc_30,hL_31⟩:=bind_some hL_31
        unfold bK at hc_30
        refine au (aj (aa (.d (.int .u64 s_29.2.1)) (aa (.d (.int .u64 (IntKind.u64.wrap base_3))) (aa (vB (decide (s_29.2.1>=(IntKind.u64.wrap base_3)))) (af ?_)))))
        rcases ah hc_30 with⟨hc_34,hc_30⟩|⟨hc_34,hc_30⟩
        ·refine aB rfl hc_34 (ay (aI (aj (aa (vI s_29.2.2) (aa (vI (w64 (s_29.2.2-1))) (aa (vI (w64 (s_29.2.2-1))) (af (aj (aa (vI (w64 (s_29.2.2-1))) (aa (.d (.int .u64 s_29.2.1)) (aa (.d (.int .u64 (IntKind.u64.wrap ((IntKind.u64.wrap base_3)-1)))) (aa (.d (.int .u64 (Dv .u64 s_29.2.1 (IntKind.u64.wrap ((IntKind.u64.wrap base_3)-1))))) ?_))))))))))))
         obtain ⟨b_35,hy_36,hc_30⟩:=bind_some hc_30
         refine vo un9 rfl rfl hy_36 wz ?_
         obtain ⟨_,hi_37,hc_30⟩:=bind_some hc_30
         refine DV 0 0 il ft xO rfl rfl rfl (xH hi_37) (sG hi_37) wz ?_
         obtain ⟨e_38,hy_39,hc_30⟩:=bind_some hc_30
         refine zV 0 il ft 0 sz5 rfl rfl hy_39 (b_35.toNat:Int) rfl wz (af (av (aa (.d (.int .u64 s_29.2.1)) (aa (.d (.int .u64 (IntKind.u64.wrap r_22))) ?_))))
         obtain ⟨q_40,hz_41,hc_30⟩:=bind_some hc_30
         refine jI rfl rfl hz_41 wz (aa (.d (.int .u64 q_40)) (af ?_))
         obtain rfl:=ae hc_30
         exact aK (k_24,((s_29.1.set ((w64 (s_29.2.2-1))).toNat (b_35.toNat:Int)),q_40,(w64 (s_29.2.2-1)))) hL_31 (ls_ _) rfl (aC rfl)
        ·refine aA rfl hc_34 (aV ?_)
         obtain rfl:=ae hc_30
         obtain rfl:=ae hL_31
         exact aX ((s_29.1,s_29.2.1,s_29.2.2)) rfl rfl (aC rfl)
      ·rintro s_29 ho_ sl_ H_ hp_ hq_
       subst ho_
       refine aJ _ hp_ hq_ (aj (aa (vI s_29.2.2) (aa (vI (w64 (s_29.2.2-1))) (aa (vI (w64 (s_29.2.2-1))) (af (av (aa (vI (w64 (s_29.2.2-1))) (aa (.d (.int .u64 s_29.2.1)) ?_))))))))
       obtain ⟨b_42,hy_43,h_20⟩:=bind_some h_20
       refine vo un9 rfl rfl hy_43 wz ?_
       obtain ⟨_,hi_44,h_20⟩:=bind_some h_20
       refine DV 0 0 il ft xO rfl rfl rfl (xH hi_44) (sG hi_44) wz ?_
       obtain ⟨e_45,hy_46,h_20⟩:=bind_some h_20
       refine zV 0 il ft 0 sz5 rfl rfl hy_46 (b_42.toNat:Int) rfl wz (af ?_)
       obtain rfl:=ae h_20
       exact cu
     ·refine aA rfl hc_21 (aj (aa (vI base_3) (bB un3 IP rfl wz (aa (.d (.int .u64 (IntKind.u64.wrap base_3))) (af (au ?_))))))
      obtain ⟨o_56,hj_57,h_20⟩:=bind_some h_20
      obtain ⟨nq_71,hj_57⟩:=aP hj_57
      refine aU (λ(s_53:(List Int)×Int×Int)=>[(0,(vL (eK .u8) dst_1)),(1,(.d (.int .u64 s_53.2.1))),(3,(vB neg_4)),(4,(vB append_5)),(10,.nil),(11,(vS (⟨#[]⟩:ByteArray))),(12,(.ref n_13 0 0)),(13,(vI s_53.2.2))]) (λ(s_53:(List Int)×Int×Int)=>[(n_13,some (bV 1 (eK .u8) s_53.1))]) (λ(k_48:Nat)=>(λ(s_53:(List Int)×Int×Int)=>[(0,(vL (eK .u8) dst_1)),(1,(.d (.int .u64 s_53.2.1))),(3,(vB neg_4)),(4,(vB append_5)),(10,.nil),(11,(vS (⟨#[]⟩:ByteArray))),(12,(.ref n_13 0 0)),(13,(vI s_53.2.2)),(17,(.d (.int .u64 (IntKind.u64.wrap base_3))))])) (λs=>jg base_3 s) o_56 nq_71 ((List.replicate 65 (0:Int)),v_14,65) hj_57 rfl (aC rfl) ?_ ?_
      ·rintro ⟨k_48,s_53⟩ hL_55
       dsimp only at hL_55
       cases k_48 with
       | zero=>cases hL_55
       | succ k_48 =>
        obtain ⟨c_,hc_54,hL_55⟩:=bind_some hL_55
        unfold jg at hc_54
        refine au (aj (aa (.d (.int .u64 s_53.2.1)) (aa (.d (.int .u64 (IntKind.u64.wrap base_3))) (aa (vB (decide (s_53.2.1>=(IntKind.u64.wrap base_3)))) (af ?_)))))
        rcases ah hc_54 with⟨hc_58,hc_54⟩|⟨hc_58,hc_54⟩
        ·refine aB rfl hc_58 (ay (aI (aj (aa (vI s_53.2.2) (aa (vI (w64 (s_53.2.2-1))) (aa (vI (w64 (s_53.2.2-1))) (af (aj (aa (.d (.int .u64 s_53.2.1)) (aa (.d (.int .u64 (IntKind.u64.wrap base_3))) ?_))))))))))
         obtain ⟨q_59,hz_60,hc_54⟩:=bind_some hc_54
         refine IW rfl rfl hz_60 wz (aa (.d (.int .u64 q_59)) (af (aj (aa (vI (w64 (s_53.2.2-1))) (aa (.d (.int .u64 s_53.2.1)) (aa (.d (.int .u64 q_59)) (aa (.d (.int .u64 (IntKind.u64.wrap base_3))) (aa (.d (.int .u64 (IntKind.u64.wrap (q_59*(IntKind.u64.wrap base_3))))) (aa (.d (.int .u64 (IntKind.u64.wrap (s_53.2.1-(IntKind.u64.wrap (q_59*(IntKind.u64.wrap base_3))))))) ?_)))))))))
         obtain ⟨b_61,hy_62,hc_54⟩:=bind_some hc_54
         refine vo un9 rfl rfl hy_62 wz ?_
         obtain ⟨_,hi_63,hc_54⟩:=bind_some hc_54
         refine DV 0 0 il ft xO rfl rfl rfl (xH hi_63) (sG hi_63) wz ?_
         obtain ⟨e_64,hy_65,hc_54⟩:=bind_some hc_54
         refine zV 0 il ft 0 sz5 rfl rfl hy_65 (b_61.toNat:Int) rfl wz (af (av (aa (.d (.int .u64 q_59)) (aa (.d (.int .u64 q_59)) (af ?_)))))
         obtain rfl:=ae hc_54
         exact aK (k_48,((s_53.1.set ((w64 (s_53.2.2-1))).toNat (b_61.toNat:Int)),q_59,(w64 (s_53.2.2-1)))) hL_55 (ls_ _) rfl (aC rfl)
        ·refine aA rfl hc_58 (aV ?_)
         obtain rfl:=ae hc_54
         obtain rfl:=ae hL_55
         exact aX ((s_53.1,s_53.2.1,s_53.2.2)) rfl rfl (aC rfl)
      ·rintro s_53 ho_ sl_ H_ hp_ hq_
       subst ho_
       refine aJ _ hp_ hq_ (aj (aa (vI s_53.2.2) (aa (vI (w64 (s_53.2.2-1))) (aa (vI (w64 (s_53.2.2-1))) (af (av (aa (vI (w64 (s_53.2.2-1))) (aa (.d (.int .u64 s_53.2.1)) ?_))))))))
       obtain ⟨b_66,hy_67,h_20⟩:=bind_some h_20
       refine vo un9 rfl rfl hy_67 wz ?_
       obtain ⟨_,hi_68,h_20⟩:=bind_some h_20
       refine DV 0 0 il ft xO rfl rfl rfl (xH hi_68) (sG hi_68) wz ?_
       obtain ⟨e_69,hy_70,h_20⟩:=bind_some h_20
       refine zV 0 il ft 0 sz5 rfl rfl hy_70 (b_66.toNat:Int) rfl wz (af ?_)
       obtain rfl:=ae h_20
       exact cu
    ·rintro ⟨⟩ _ sl_ H_ hp_ hq_
     refine aJ _ hp_ hq_ (au (aj (aa (vB neg_4) (af ?_))))
     obtain ⟨v_72,h_73,hF⟩:=bind_some hF
     refine aH [(0,(vL (eK .u8) dst_1)),(4,(vB append_5)),(10,.nil),(11,(vS (⟨#[]⟩:ByteArray))),(12,(.ref n_13 0 0)),(13,(vI v_72.2))] [(n_13,some (bV 1 (eK .u8) v_72.1))] ?_ ?_
     ·rcases ah h_73 with⟨hc_74,h_73⟩|⟨hc_74,h_73⟩
      ·refine aB rfl hc_74 (aj (aa (vI v_19.2) (aa (vI (w64 (v_19.2-1))) (aa (vI (w64 (v_19.2-1))) (af (av (aa (vI (w64 (v_19.2-1))) ?_)))))))
       obtain ⟨_,hi_75,h_73⟩:=bind_some h_73
       refine DV 0 0 il ft xO rfl rfl rfl (xH hi_75) (sG hi_75) wz ?_
       obtain ⟨e_76,hy_77,h_73⟩:=bind_some h_73
       refine zV 0 il ft 0 sz5 rfl rfl hy_77 45 rfl wz (af ?_)
       obtain rfl:=ae h_73
       exact cu
      ·refine aA rfl hc_74 (ay ?_)
       obtain rfl:=ae h_73
       exact cu
     ·rintro ⟨⟩ _ sl_ H_ hp_ hq_
      refine aJ _ hp_ hq_ (au (aj (aa (vB append_5) (af ?_))))
      rcases ah hF with⟨hc_78,hF⟩|⟨hc_78,hF⟩
      ·refine aB rfl hc_78 (aj (aa (vL (eK .u8) dst_1) (aa (vI v_72.2) ?_)))
       obtain ⟨_,hn_79,hF⟩:=bind_some hF
       obtain ⟨_,hr_80,hF⟩:=bind_some hF
       refine DU 0 0 il ft xO rfl rfl rfl hn_79 hr_80 wz ?_
       cases hF
      ·refine aA rfl hc_78 (ay (aj (aa (vI v_72.2) ?_)))
       obtain ⟨_,hn_81,hF⟩:=bind_some hF
       obtain ⟨_,hr_82,hF⟩:=bind_some hF
       refine DU 0 0 il ft xO rfl rfl rfl hn_81 hr_82 wz (h_convp 0 0 il ft un66 un9 un5 rfl rfl (uj hr_82) wz (aa (vS (Go.strOfNums (yo v_72.1 ((v_72.2).toNat) (((v_72.1.length:Int)).toNat-(v_72.2).toNat)))) (af ?_)))
       obtain rfl:=ae hF
       exact aN (bz [.nil,(vS (Go.strOfNums (yo v_72.1 ((v_72.2).toNat) (((v_72.1.length:Int)).toNat-(v_72.2).toNat))))] ⟨rfl,⟨rfl,trivial⟩⟩)
theorem nQ {i_1:Int} {base_2:Int} {r:ByteArray} (hF:iQ i_1 base_2=some r) :
  FnM Tryz.prog 78 [(.d (.int .u64 i_1)),(vI base_2)] [] (vS r) []:=by
 refine FnM.of_wH ⟨Tryz.prog,32,[],[]⟩ rfl Tryz.func78 rfl rfl (lb_ rfl) (by kernel_rfl) ?_
 unfold iQ at hF
 refine aj (aa (vS (⟨#[]⟩:ByteArray)) (af (au (aj (aa (vI base_2) (aa (vB (base_2==10)) (af ?_)))))))
 rcases ah hF with⟨hc_3,hF⟩|⟨hc_3,hF⟩
 ·refine aB rfl hc_3 (au (aj (aa (.d (.int .u64 i_1)) (aa (vB (decide (i_1<100))) (af ?_)))))
  rcases ah hF with⟨hc_4,hF⟩|⟨hc_4,hF⟩
  ·refine aB rfl hc_4 (aj (aa (.d (.int .u64 i_1)) (bB IP un3 rfl wz ?_)))
   cases hF
  ·refine aA rfl hc_4 (ay (aj (EE (List.replicate 24 (0:Int)) 0 (.inl rfl) z115 (by kernel_rfl) (by kernel_rfl) ab115 wz (λn_5=>af (aj (aa (.d (.int .u64 i_1)) ?_))))))
   cases hF
 ·refine aA rfl hc_3 (ay (aj (aa (.d (.int .u64 i_1)) (aa (vI base_2) ?_))))
  obtain ⟨r_6,hr_7,hF⟩:=bind_some hF
  refine aG (nW hr_7) rfl hb97 rfl rfl rfl rfl wz (aa (.tup [(vL (eK .u8) r_6.1),(vS r_6.2)]) (aa (vL (eK .u8) r_6.1) (aa (vS r_6.2) (aa (vL (eK .u8) r_6.1) (aa (vS r_6.2) (af (aj (aa (vS r_6.2) (aa (vS r_6.2) (af ?_))))))))))
  obtain rfl:=ae hF
  exact aN (bz [(vS r_6.2)] ⟨rfl,trivial⟩)
theorem sD {i_1:Int} {base_2:Int} {r:ByteArray} (hF:jV i_1 base_2=some r) :
  FnM Tryz.prog 60 [(.d (.int .u64 i_1)),(vI base_2)] [] (vS r) []:=by
 refine FnM.of_wH ⟨Tryz.prog,8,[],[]⟩ rfl Tryz.func60 rfl rfl (lb_ rfl) (by kernel_rfl) ?_
 unfold jV at hF
 refine aj (aa (vS (⟨#[]⟩:ByteArray)) (af (aj (aa (.d (.int .u64 i_1)) (aa (vI base_2) ?_)))))
 obtain ⟨r_3,hr_4,hF⟩:=bind_some hF
 refine aG (nQ hr_4) rfl hb78 rfl rfl rfl rfl wz (aa (vS r_3) (af ?_))
 obtain rfl:=ae hF
 exact aN (bz [(vS r_3)] ⟨rfl,trivial⟩)
theorem vG {x0:ByteArray} {x1:Int} {r:ByteArray} (hF:strings_Repeat x0 x1=some r) :
  FnM Tryz.prog 61 [(vS x0),(vI x1)] [] (vS r) [] :=
 Ht rfl Tryz.strings_Repeat  hF
theorem AA {s_1:ByteArray} {r:ByteArray} (hF:nM s_1=some r) :
  FnM Tryz.prog 44 [(vS s_1)] [] (vS r) []:=by
 refine FnM.of_wH ⟨Tryz.prog,27,[],[]⟩ rfl Tryz.func44 rfl rfl (lb_ rfl) (by kernel_rfl) ?_
 unfold nM at hF
 refine aj (aa (vS (⟨#[]⟩:ByteArray)) (af (aj (aa (.d (.int .u64 14695981039346656037)) (af (au (aj (aa (vS s_1) (tQ un9 rfl wz (aa (vI 0) (af ?_)))))))))))
 obtain ⟨o_10,hj_11,hF⟩:=bind_some hF
 obtain ⟨hn_6,hj_11⟩:=dI hj_11
 refine jE (λ(s_7:Int)=>[(3,(.d (.int .u64 s_7)))]) (λ(s_7:Int)=>[]) (λ(k_2:Nat)=>(λ(s_7:Int)=>[(0,(vS s_1)),(3,(.d (.int .u64 s_7))),(7,(vI (s_1.size:Int))),(8,(vI (k_2:Int)))])) (λk x s=>mg s_1 k x s) o_10 (List.range ((s_1.size:Int)).toNat) 14695981039346656037 hj_11 rfl (aC rfl) ?_ ?_
 ·rintro ⟨k_2,l_3,s_7⟩ ⟨hL_9,hD_5⟩
  dsimp only at hL_9 hD_5
  cases l_3 with
  | nil =>
   obtain rfl:=ae hL_9
   refine aj (aa (vB (decide ((k_2:Int)<(s_1.size:Int)))) (af ?_))
   refine au (aA rfl (qH hD_5) (aV ?_))
   exact aX (s_7) rfl rfl (aC rfl)
  | cons x_4 l_3 =>
   obtain ⟨c_,hc_8,hL_9⟩:=bind_some hL_9
   refine aj (aa (vB (decide ((k_2:Int)<(s_1.size:Int)))) (af ?_))
   refine au (aB rfl (pY hD_5) (ay ?_))
   unfold mg at hc_8
   refine au (aI (aj (aa (vI (k_2:Int)) (aa (vI (k_2:Int)) (af (av (aa (.d (.int .u64 s_7)) (aa (vS s_1) (aa (vI (k_2:Int)) ?_)))))))))
   obtain ⟨b_12,hy_13,hc_8⟩:=bind_some hc_8
   refine vo un9 rfl rfl hy_13 wz (bB un5 IP rfl wz (aa (.d (.int .u64 (Ao .u64 s_7 (IntKind.u64.wrap (b_12.toNat:Int))))) (aa (.d (.int .u64 (IntKind.u64.wrap ((Ao .u64 s_7 (IntKind.u64.wrap (b_12.toNat:Int)))*1099511628211)))) (aa (.d (.int .u64 (IntKind.u64.wrap ((Ao .u64 s_7 (IntKind.u64.wrap (b_12.toNat:Int)))*1099511628211)))) (af (av (lw (qP hD_5 hn_6) wz rfl (aa (vI ((k_2+1:Nat):Int)) (af ?_)))))))))
   obtain rfl:=ae hc_8
   exact aK (k_2+1,l_3,(IntKind.u64.wrap ((Ao .u64 s_7 (IntKind.u64.wrap (b_12.toNat:Int)))*1099511628211))) ⟨hL_9,bR hD_5⟩ (ls_ _) rfl (aC rfl)
 ·rintro s_7 ho_ sl_ H_ hp_ hq_
  subst ho_
  refine aJ _ hp_ hq_ (aj (aa (.d (.int .u64 s_7)) ?_))
  obtain ⟨r_14,hr_15,hF⟩:=bind_some hF
  refine aG (sD hr_15) rfl hb60 rfl rfl rfl rfl wz (aa (vS r_14) (af (aj (aa (vS r_14) (tQ un9 rfl wz (aa (vI (w64 (16-(r_14.size:Int)))) ?_))))))
  obtain ⟨r_16,hr_17,hF⟩:=bind_some hF
  refine aG (vG hr_17) rfl hb61 rfl rfl rfl rfl wz (aa (vS r_14) ?_)
  obtain ⟨s_18,hz_19,hF⟩:=bind_some hF
  refine nL rfl rfl hz_19 wz (aa (vS s_18) (af ?_))
  obtain rfl:=ae hF
  exact aN (bz [(vS s_18)] ⟨rfl,trivial⟩)
theorem vC {last_1:ByteArray} {l_2:Log_} {r:ByteArray} (hF:mO last_1 l_2=some r) :
  FnM Tryz.prog 30 [(vS last_1),(.d (.agg (Log_.enc l_2)))] [] (vS r) []:=by
 refine FnM.of_wH ⟨Tryz.prog,11,[],[]⟩ rfl Tryz.func30 rfl rfl (lb_ rfl) (by kernel_rfl) ?_
 unfold mO at hF
 refine aj (q8 0 (.inl rfl) (Log_.v l_2) rfl rfl wz (λn_3=>aa (vS (⟨#[]⟩:ByteArray)) (af (aj (aa (vS last_1) ?_)))))
 obtain ⟨s_4,hz_5,hF⟩:=bind_some hF
 refine nL rfl rfl hz_5 wz (bE 0 0 il ft bf bL rfl rfl (.d (.agg (Log_.enc l_2))) rfl wz ?_)
 obtain ⟨r_6,hr_7,hF⟩:=bind_some hF
 refine aG (Az hr_7) rfl hb45 rfl rfl rfl rfl wz ?_
 obtain ⟨s_8,hz_9,hF⟩:=bind_some hF
 refine nL rfl rfl hz_9 wz ?_
 obtain ⟨r_10,hr_11,hF⟩:=bind_some hF
 refine aG (AA hr_11) rfl hb44 rfl rfl rfl rfl wz (aa (vS r_10) (af ?_))
 obtain rfl:=ae hF
 exact aN (bz [(vS r_10)] ⟨rfl,trivial⟩)
theorem yA {l_1:(List Log_)} {r:(List Int)×Int} (hF:lq l_1=some r) :
  FnM Tryz.prog 10 [(vL Log_.enc l_1)] [] (.tup [(vL eI r.1),(vI r.2)]) []:=by
 refine FnM.of_wH ⟨Tryz.prog,69,[],[]⟩ rfl Tryz.func10 rfl rfl (lb_ rfl) (by kernel_rfl) ?_
 unfold lq at hF
 refine aj (aa .nil (aa (vI 0) (af (au (aj (aa (vL Log_.enc l_1) ?_))))))
 obtain ⟨r_2,hr_3,hF⟩:=bind_some hF
 refine aG (mH hr_3) rfl hb25 rfl rfl rfl rfl wz (aa (vI r_2) (af (aj (aa (vI r_2) (aa (vB (r_2 != 0)) (af ?_))))))
 rcases ah hF with⟨hc_4,hF⟩|⟨hc_4,hF⟩
 ·refine aB rfl hc_4 (aj (aa (vI r_2) (aa .nil (aa (vI r_2) (af ?_)))))
  obtain rfl:=ae hF
  exact aN (bz [.nil,(vI r_2)] ⟨rfl,⟨rfl,trivial⟩⟩)
 ·refine aA rfl hc_4 (ay (aj (aa .nil (af (au (aj (aa (vL Log_.enc l_1) (iT lK rfl wz (aa (vI 0) (af (sH (λn_11 => ?_))))))))))))
  obtain ⟨o_16,hj_17,hF⟩:=bind_some hF
  obtain ⟨hn_9,hj_17⟩:=dI hj_17
  refine nz (σ:=(List Int)) (N:=Nm) (λp=>(λ(s_10:List Int) (n_13:Nm)=>([(5,(gV n_13 1 s_10))]:SL_)) p.1 p.2) (λp=>(λ(s_10:List Int) (n_13:Nm)=>([(n_13,gB 1 eI s_10)]:Hp)) p.1 p.2) (λ(k_5:Nat)=>(λp=>(λ(s_10:List Int) (n_13:Nm)=>([(0,(vL Log_.enc l_1)),(5,(gV n_13 1 s_10)),(14,(vL Log_.enc l_1)),(15,(vI (l_1.length:Int))),(16,(vI (k_5:Int)))]:SL_)) p.1 p.2)) (λk x s=>kw l_1 k x s) o_16 l_1 (([]:List Int),n_11) hj_17 rfl (aC rfl) ?_ ?_
  ·rintro ⟨k_5,l_6,s_10,n_13⟩ ⟨hL_15,hD_8⟩
   dsimp only at hL_15 hD_8
   cases l_6 with
   | nil =>
    obtain rfl:=ae hL_15
    refine aj (aa (vB (decide ((k_5:Int)<(l_1.length:Int)))) (af ?_))
    refine au (aA rfl (drop_nil hD_8) (aV ?_))
    exact aX (s_10,n_13) rfl rfl (aC rfl)
   | cons x_7 l_6 =>
    obtain ⟨c_,hc_14,hL_15⟩:=bind_some hL_15
    refine aj (aa (vB (decide ((k_5:Int)<(l_1.length:Int)))) (af ?_))
    refine au (aB rfl (iy hD_8) (ay ?_))
    unfold kw at hc_14
    refine au (aI (aj (aa (vI (k_5:Int)) (jQ bg rfl rfl (iW hD_8) rfl wz (fO bf bL rfl (.d (.agg (Log_.enc x_7))) rfl wz (nk 0 (.inl rfl) z31 rfl wz (λn_18=>aa (vI (k_5:Int)) (qY 0 il ft 1 bf rfl rfl (Log_.v x_7) rfl wz (af (aj (aa (vS (⟨#[]⟩:ByteArray)) (af (au (aI (au ?_)))))))))))))))
    obtain ⟨v_19,h_20,hc_14⟩:=bind_some hc_14
    refine aH [(0,(vL Log_.enc l_1)),(5,(gV n_13 1 s_10)),(6,(vI (k_5:Int))),(7,(.ref n_18 0 0)),(8,(vS (⟨#[]⟩:ByteArray))),(14,(vL Log_.enc l_1)),(15,(vI (l_1.length:Int))),(16,(vI (k_5:Int))),(21,(vB v_19))] [(n_13,gB 1 eI s_10),(n_18,some (.cells 6 (Log_.v x_7)))] ?_ ?_
    ·refine aQ (aa (vI (k_5:Int)) (aa (vB (decide ((k_5:Int)>0))) ?_))
     rcases ah h_20 with⟨hc_21,h_20⟩|⟨hc_21,h_20⟩
     ·refine aD rfl hc_21 wz (aL (vL Log_.enc l_1) wa rfl (aL (vI (k_5:Int)) wa rfl (aL (vI (w64 ((k_5:Int)-1))) wa rfl ?_)))
      obtain ⟨y_22,hy_23,h_20⟩:=bind_some h_20
      refine jQ bg rfl rfl hy_23 rfl wa (oD kv rfl [.str y_22.Player,.str y_22.Item,.int .i64 y_22.No,.int .i64 y_22.Clock,.int .i64 y_22.Long,.str y_22.Sum] rfl rfl wa (fO sz9 ag9 rfl (vS y_22.Player) rfl wa (bD kv rfl 0 rfl wa (bE 10 1 (.inr (by kernel_rfl)) (λ_ _ ag=>trivial) sz9 ag9 rfl rfl (vS x_7.Player) rfl wa (aL (vB (sEq y_22.Player x_7.Player)) wa rfl (aa (vB (sEq y_22.Player x_7.Player)) ?_))))))
      rcases ah h_20 with⟨hc_24,h_20⟩|⟨hc_24,h_20⟩
      ·refine aD rfl hc_24 wz (aL (vL Log_.enc l_1) wa rfl (aL (vI (k_5:Int)) wa rfl (aL (vI (w64 ((k_5:Int)-1))) wa rfl ?_)))
       obtain ⟨y_25,hy_26,h_20⟩:=bind_some h_20
       refine jQ bg rfl rfl hy_26 rfl wa (oD kH rfl [.int .i64 y_25.No,.int .i64 y_25.Clock,.int .i64 y_25.Long,.str y_25.Sum] rfl rfl wa (fO sz3 ag3 rfl (vI y_25.No) rfl wa (bD kH rfl 2 rfl wa (bE 21 1 (.inr (by kernel_rfl)) (λ_ _ ag=>⟨.inl ⟨rfl,rfl⟩,trivial⟩) sz3 ag3 rfl rfl (vI x_7.No) rfl wa (aL (vI (w64 (x_7.No-1))) wa rfl (aL (vB (y_25.No==(w64 (x_7.No-1)))) wa rfl (aa (vB (y_25.No==(w64 (x_7.No-1)))) (aa (vB (y_25.No==(w64 (x_7.No-1)))) (af ?_)))))))))
       obtain rfl:=ae h_20
       exact cu
      ·refine aD rfl hc_24 wz (ai (ai (ai (ai (ai (ai (ai (ai (ai (ai (aa (vB false) (aa (vB false) (af ?_)))))))))))))
       obtain rfl:=ae h_20
       exact cu
     ·refine aD rfl hc_21 wz (ai (ai (ai (ai (ai (ai (ai (ai (ai (aa (vB false) (aa (vB false) (ai (ai (ai (ai (ai (ai (ai (ai (ai (ai (aa (vB false) (aa (vB false) ?_)))))))))))))))))))))))
      refine af ?_
      obtain rfl:=ae h_20
      exact cu
    ·rintro ⟨⟩ _ sl_ H_ hp_ hq_
     refine aJ _ hp_ hq_ ?_
     rcases ah hc_14 with⟨hc_27,hc_14⟩|⟨hc_27,hc_14⟩
     ·refine aB rfl hc_27 (av (aa (vL Log_.enc l_1) (aa (vI (k_5:Int)) (aa (vI (w64 ((k_5:Int)-1))) ?_))))
      obtain ⟨y_28,hy_29,hc_14⟩:=bind_some hc_14
      refine jQ bg rfl rfl hy_29 rfl wz (oD oH rfl [.str y_28.Sum] rfl rfl wz (fO sz9 ag9 rfl (vS y_28.Sum) rfl wz (aa (vS y_28.Sum) (af (au (aQ (aa (vS y_28.Sum) (bE 1 1 (.inr (by kernel_rfl)) (λ_ _ ag=>trivial) bf bL rfl rfl (.d (.agg (Log_.enc x_7))) rfl wz ?_))))))))
      obtain ⟨r_30,hr_31,hc_14⟩:=bind_some hc_14
      refine aG (vC hr_31) rfl hb30 rfl rfl rfl rfl wz (bD oH rfl 5 rfl wz (bE 4 1 (.inr (by kernel_rfl)) (λ_ _ ag=>⟨.inl ⟨rfl,rfl⟩,trivial⟩) sz9 ag9 rfl rfl (vS x_7.Sum) rfl wz (aa (vB (sNe r_30 x_7.Sum)) (af ?_))))
      obtain ⟨v_32,h_33,hc_14⟩:=bind_some hc_14
      refine nu (β:=Nm) (λ(n_34:Nm)=>([(0,(vL Log_.enc l_1)),(5,(gV n_34 1 v_32)),(14,(vL Log_.enc l_1)),(15,(vI (l_1.length:Int))),(16,(vI (k_5:Int)))]:SL_)) (λ(n_34:Nm)=>([(n_34,gB 1 eI v_32),(n_18,some (.cells 6 (Log_.v x_7)))]:Hp)) (λ_=>True) ?_ ?_
      ·rcases ah h_33 with⟨hc_35,h_33⟩|⟨hc_35,h_33⟩
       ·refine aB rfl hc_35 (av (aa (gV n_13 1 s_10) (aa (vI (k_5:Int)) (kL (([(k_5:Int)]:List Int).map eI) sK y8 rfl rfl rfl rfl rfl wz ?_))))
        obtain ⟨a_36,hz_37,h_33⟩:=bind_some h_33
        refine qB 0 il ft (i:=0) Hd Hd sz3 z3 rfl (by decide) by3 (by decide) (λ_=>rfl) rfl rfl rfl hz_37 wz (λn_38=>aa (gV n_38 1 a_36) (af ?_))
        obtain rfl:=ae h_33
        exact aX n_38 trivial rfl (aC rfl)
       ·refine aA rfl hc_35 (ay ?_)
        obtain rfl:=ae h_33
        exact aX n_13 trivial rfl (aC rfl)
      ·rintro n_34 _ sl_ H_ hp_ hq_
       refine aJ _ hp_ hq_ (av (lw (iB hD_8 hn_9) wz rfl (aa (vI ((k_5+1:Nat):Int)) (af ?_))))
       obtain rfl:=ae hc_14
       exact aK (k_5+1,l_6,v_32,n_34) ⟨hL_15,bR hD_8⟩ (ls_ _) rfl (aC rfl)
     ·refine aA rfl hc_27 (aj (bD kH rfl 2 rfl wz (bE 0 1 il ft sz3 ag3 rfl rfl (vI x_7.No) rfl wz (aa (vB (x_7.No != 1)) (aa (vB (x_7.No != 1)) (af ?_))))))
      rcases ah hc_14 with⟨hc_39,hc_14⟩|⟨hc_39,hc_14⟩
      ·refine aB rfl hc_39 (aV (av (lw (iB hD_8 hn_9) wz rfl (aa (vI ((k_5+1:Nat):Int)) (af ?_)))))
       obtain rfl:=ae hc_14
       exact aK (k_5+1,l_6,s_10,n_13) ⟨hL_15,bR hD_8⟩ (ls_ _) rfl (aC rfl)
      ·refine aA rfl hc_39 (ay (au (aQ (aa (vS (⟨#[]⟩:ByteArray)) (bE 1 1 (.inr (by kernel_rfl)) (λ_ _ ag=>trivial) bf bL rfl rfl (.d (.agg (Log_.enc x_7))) rfl wz ?_)))))
       obtain ⟨r_40,hr_41,hc_14⟩:=bind_some hc_14
       refine aG (vC hr_41) rfl hb30 rfl rfl rfl rfl wz (bD oH rfl 5 rfl wz (bE 4 1 (.inr (by kernel_rfl)) (λ_ _ ag=>⟨.inl ⟨rfl,rfl⟩,trivial⟩) sz9 ag9 rfl rfl (vS x_7.Sum) rfl wz (aa (vB (sNe r_40 x_7.Sum)) (af ?_))))
       obtain ⟨v_42,h_43,hc_14⟩:=bind_some hc_14
       refine nu (β:=Nm) (λ(n_44:Nm)=>([(0,(vL Log_.enc l_1)),(5,(gV n_44 1 v_42)),(14,(vL Log_.enc l_1)),(15,(vI (l_1.length:Int))),(16,(vI (k_5:Int)))]:SL_)) (λ(n_44:Nm)=>([(n_44,gB 1 eI v_42),(n_18,some (.cells 6 (Log_.v x_7)))]:Hp)) (λ_=>True) ?_ ?_
       ·rcases ah h_43 with⟨hc_45,h_43⟩|⟨hc_45,h_43⟩
        ·refine aB rfl hc_45 (av (aa (gV n_13 1 s_10) (aa (vI (k_5:Int)) (kL (([(k_5:Int)]:List Int).map eI) sK y8 rfl rfl rfl rfl rfl wz ?_))))
         obtain ⟨a_46,hz_47,h_43⟩:=bind_some h_43
         refine qB 0 il ft (i:=0) Hd Hd sz3 z3 rfl (by decide) by3 (by decide) (λ_=>rfl) rfl rfl rfl hz_47 wz (λn_48=>aa (gV n_48 1 a_46) (af ?_))
         obtain rfl:=ae h_43
         exact aX n_48 trivial rfl (aC rfl)
        ·refine aA rfl hc_45 (ay ?_)
         obtain rfl:=ae h_43
         exact aX n_13 trivial rfl (aC rfl)
       ·rintro n_44 _ sl_ H_ hp_ hq_
        refine aJ _ hp_ hq_ (av (lw (iB hD_8 hn_9) wz rfl (aa (vI ((k_5+1:Nat):Int)) (af ?_))))
        obtain rfl:=ae hc_14
        exact aK (k_5+1,l_6,v_42,n_44) ⟨hL_15,bR hD_8⟩ (ls_ _) rfl (aC rfl)
  ·rintro ⟨s_10,n_13⟩ ho_ sl_ H_ hp_ hq_
   subst ho_
   refine aJ _ hp_ hq_ (aj (aa (gV n_13 1 s_10) (aa (gV n_13 1 s_10) (aa (vI 0) (af (lT 0 rfl (jN 2 0 rfl rfl (jN 5 0 rfl rfl (jN 68 0 rfl rfl ?_)))))))))
   obtain rfl:=ae hF
   exact aN (bz [(vL eI s_10),(vI 0)] ⟨rfl,⟨rfl,trivial⟩⟩)
theorem xw {l_1:(List Log_)} {r:(List Log_)×Int} (hF:kF l_1=some r) :
  FnM Tryz.prog 11 [(vL Log_.enc l_1)] [] (.tup [(vL Log_.enc r.1),(vI r.2)]) []:=by
 refine FnM.of_wH ⟨Tryz.prog,58,[],[]⟩ rfl Tryz.func11 rfl rfl (lb_ rfl) (by kernel_rfl) ?_
 unfold kF at hF
 refine aj (aa .nil (aa (vI 0) (af (au (aj (aa (vL Log_.enc l_1) ?_))))))
 obtain ⟨r_2,hr_3,hF⟩:=bind_some hF
 refine aG (mH hr_3) rfl hb25 rfl rfl rfl rfl wz (aa (vI r_2) (af (aj (aa (vI r_2) (aa (vB (r_2 != 0)) (af ?_))))))
 rcases ah hF with⟨hc_4,hF⟩|⟨hc_4,hF⟩
 ·refine aB rfl hc_4 (aj (aa (vI r_2) (aa .nil (aa (vI r_2) (af ?_)))))
  obtain rfl:=ae hF
  exact aN (bz [.nil,(vI r_2)] ⟨rfl,⟨rfl,trivial⟩⟩)
 ·refine aA rfl hc_4 (ay (aj (aa .nil (af (au (aj (aa (vL Log_.enc l_1) (iT lK rfl wz (aa (vI 0) (af (sH (λn_11 => ?_))))))))))))
  obtain ⟨o_16,hj_17,hF⟩:=bind_some hF
  obtain ⟨hn_9,hj_17⟩:=dI hj_17
  refine nz (σ:=(List Log_)) (N:=Nm) (λp=>(λ(s_10:List Log_) (n_13:Nm)=>([(5,(gV n_13 6 s_10))]:SL_)) p.1 p.2) (λp=>(λ(s_10:List Log_) (n_13:Nm)=>([(n_13,gB 6 Log_.enc s_10)]:Hp)) p.1 p.2) (λ(k_5:Nat)=>(λp=>(λ(s_10:List Log_) (n_13:Nm)=>([(0,(vL Log_.enc l_1)),(5,(gV n_13 6 s_10)),(14,(vL Log_.enc l_1)),(15,(vI (l_1.length:Int))),(16,(vI (k_5:Int)))]:SL_)) p.1 p.2)) (λk x s=>iM l_1 k x s) o_16 l_1 (([]:List Log_),n_11) hj_17 rfl (aC rfl) ?_ ?_
  ·rintro ⟨k_5,l_6,s_10,n_13⟩ ⟨hL_15,hD_8⟩
   dsimp only at hL_15 hD_8
   cases l_6 with
   | nil =>
    obtain rfl:=ae hL_15
    refine aj (aa (vB (decide ((k_5:Int)<(l_1.length:Int)))) (af ?_))
    refine au (aA rfl (drop_nil hD_8) (aV ?_))
    exact aX (s_10,n_13) rfl rfl (aC rfl)
   | cons x_7 l_6 =>
    obtain ⟨c_,hc_14,hL_15⟩:=bind_some hL_15
    refine aj (aa (vB (decide ((k_5:Int)<(l_1.length:Int)))) (af ?_))
    refine au (aB rfl (iy hD_8) (ay ?_))
    unfold iM at hc_14
    refine au (aI (aj (aa (vI (k_5:Int)) (jQ bg rfl rfl (iW hD_8) rfl wz (fO bf bL rfl (.d (.agg (Log_.enc x_7))) rfl wz (nk 0 (.inl rfl) z31 rfl wz (λn_18=>aa (vI (k_5:Int)) (qY 0 il ft 1 bf rfl rfl (Log_.v x_7) rfl wz (af (aj (aa (vI 1) (af (au (au ?_))))))))))))))
    obtain ⟨v_19,h_20,hc_14⟩:=bind_some hc_14
    refine aH [(0,(vL Log_.enc l_1)),(5,(gV n_13 6 s_10)),(6,(vI (k_5:Int))),(7,(.ref n_18 0 0)),(8,(vI 1)),(14,(vL Log_.enc l_1)),(15,(vI (l_1.length:Int))),(16,(vI (k_5:Int))),(33,(vB v_19))] [(n_13,gB 6 Log_.enc s_10),(n_18,some (.cells 6 (Log_.v x_7)))] ?_ ?_
    ·refine aQ (aa (vI (k_5:Int)) (aa (vB (decide ((k_5:Int)>0))) ?_))
     rcases ah h_20 with⟨hc_21,h_20⟩|⟨hc_21,h_20⟩
     ·refine aD rfl hc_21 wz (aL (vL Log_.enc l_1) wa rfl (aL (vI (k_5:Int)) wa rfl (aL (vI (w64 ((k_5:Int)-1))) wa rfl ?_)))
      obtain ⟨y_22,hy_23,h_20⟩:=bind_some h_20
      refine jQ bg rfl rfl hy_23 rfl wa (oD kv rfl [.str y_22.Player,.str y_22.Item,.int .i64 y_22.No,.int .i64 y_22.Clock,.int .i64 y_22.Long,.str y_22.Sum] rfl rfl wa (fO sz9 ag9 rfl (vS y_22.Player) rfl wa (bD kv rfl 0 rfl wa (bE 10 1 (.inr (by kernel_rfl)) (λ_ _ ag=>trivial) sz9 ag9 rfl rfl (vS x_7.Player) rfl wa (aL (vB (sEq y_22.Player x_7.Player)) wa rfl (aa (vB (sEq y_22.Player x_7.Player)) (af ?_)))))))
      obtain rfl:=ae h_20
      exact cu
     ·refine aD rfl hc_21 wz (ai (ai (ai (ai (ai (ai (ai (ai (ai (aa (vB false) (af ?_)))))))))))
      obtain rfl:=ae h_20
      exact cu
    ·rintro ⟨⟩ _ sl_ H_ hp_ hq_
     refine aJ _ hp_ hq_ ?_
     obtain ⟨v_24,h_25,hc_14⟩:=bind_some hc_14
     refine aH [(0,(vL Log_.enc l_1)),(5,(gV n_13 6 s_10)),(7,(.ref n_18 0 0)),(8,(vI v_24)),(14,(vL Log_.enc l_1)),(15,(vI (l_1.length:Int))),(16,(vI (k_5:Int)))] [(n_13,gB 6 Log_.enc s_10),(n_18,some (.cells 6 (Log_.v x_7)))] ?_ ?_
     ·rcases ah h_25 with⟨hc_26,h_25⟩|⟨hc_26,h_25⟩
      ·refine aB rfl hc_26 (av (aa (vL Log_.enc l_1) (aa (vI (k_5:Int)) (aa (vI (w64 ((k_5:Int)-1))) ?_))))
       obtain ⟨y_27,hy_28,h_25⟩:=bind_some h_25
       refine jQ bg rfl rfl hy_28 rfl wz (oD kH rfl [.int .i64 y_27.No,.int .i64 y_27.Clock,.int .i64 y_27.Long,.str y_27.Sum] rfl rfl wz (fO sz3 ag3 rfl (vI y_27.No) rfl wz (aa (vI (w64 (y_27.No+1))) (aa (vI (w64 (y_27.No+1))) (af ?_)))))
       obtain rfl:=ae h_25
       exact cu
      ·refine aA rfl hc_26 (ay ?_)
       obtain rfl:=ae h_25
       exact cu
     ·rintro ⟨⟩ _ sl_ H_ hp_ hq_
      refine aJ _ hp_ hq_ (aj (bD kH rfl 2 rfl wz (bE 0 1 il ft sz3 ag3 rfl rfl (vI x_7.No) rfl wz (aa (vI v_24) (aa (vB (decide (x_7.No>v_24))) (af ?_))))))
      obtain ⟨v_29,h_30,hc_14⟩:=bind_some hc_14
      refine nu (β:=Nm) (λ(n_31:Nm)=>([(0,(vL Log_.enc l_1)),(5,(gV n_31 6 v_29)),(14,(vL Log_.enc l_1)),(15,(vI (l_1.length:Int))),(16,(vI (k_5:Int)))]:SL_)) (λ(n_31:Nm)=>([(n_31,gB 6 Log_.enc v_29),(n_18,some (.cells 6 (Log_.v x_7)))]:Hp)) (λ_=>True) ?_ ?_
      ·rcases ah h_30 with⟨hc_32,h_30⟩|⟨hc_32,h_30⟩
       ·refine aB rfl hc_32 (av (aa (gV n_13 6 s_10) (bD kv rfl 0 rfl wz (bE 0 1 il ft sz9 ag9 rfl rfl (vS x_7.Player) rfl wz (aa (vI v_24) (bD kH rfl 2 rfl wz (bE 0 1 il ft sz3 ag3 rfl rfl (vI x_7.No) rfl wz (aa (vI v_24) (aa (vI (w64 (x_7.No-v_24))) (aL (.d (.agg (Log_.enc (⟨x_7.Player,(⟨#[]⟩:ByteArray),v_24,0,(w64 (x_7.No-v_24)),(⟨#[]⟩:ByteArray)⟩:Log_)))) wz (by kernel_rfl) (kL (([(⟨x_7.Player,(⟨#[]⟩:ByteArray),v_24,0,(w64 (x_7.No-v_24)),(⟨#[]⟩:ByteArray)⟩:Log_)]:List Log_).map Log_.enc) bg ez26 rfl rfl rfl rfl rfl wz ?_)))))))))))
        obtain ⟨a_33,hz_34,h_30⟩:=bind_some h_30
        refine qB 0 il ft (i:=0) wh wh bf z31 rfl (by decide) GK (by decide) (λ_=>rfl) rfl rfl rfl hz_34 wz (λn_35=>aa (gV n_35 6 a_33) (af ?_))
        obtain rfl:=ae h_30
        exact aX n_35 trivial rfl (aC rfl)
       ·refine aA rfl hc_32 (ay ?_)
        obtain rfl:=ae h_30
        exact aX n_13 trivial rfl (aC rfl)
      ·rintro n_31 _ sl_ H_ hp_ hq_
       refine aJ _ hp_ hq_ (av (lw (iB hD_8 hn_9) wz rfl (aa (vI ((k_5+1:Nat):Int)) (af ?_))))
       obtain rfl:=ae hc_14
       exact aK (k_5+1,l_6,v_29,n_31) ⟨hL_15,bR hD_8⟩ (ls_ _) rfl (aC rfl)
  ·rintro ⟨s_10,n_13⟩ ho_ sl_ H_ hp_ hq_
   subst ho_
   refine aJ _ hp_ hq_ (aj (aa (gV n_13 6 s_10) (aa (gV n_13 6 s_10) (aa (vI 0) (af (lT 0 rfl (jN 2 0 rfl rfl (jN 5 0 rfl rfl (jN 57 0 rfl rfl ?_)))))))))
   obtain rfl:=ae hF
   exact aN (bz [(vL Log_.enc s_10),(vI 0)] ⟨rfl,⟨rfl,trivial⟩⟩)
theorem uy {n_1:Int} {low_2:Int} {high_3:Int} {r:Bool} (hF:rQ n_1 low_2 high_3=some r) :
  FnM Tryz.prog 47 [(vI n_1),(vI low_2),(vI high_3)] [] (vB r) []:=by
 refine FnM.of_wH ⟨Tryz.prog,15,[],[]⟩ rfl Tryz.func47 rfl rfl (lb_ rfl) (by kernel_rfl) ?_
 unfold rQ at hF
 refine aj (aa (vB false) (af (au ?_)))
 obtain ⟨v_4,h_5,hF⟩:=bind_some hF
 refine aH [(6,(vB v_4))] [] ?_ ?_
 ·refine av (aa (vI low_2) (aa (vI n_1) (aa (vB (decide (low_2<=n_1))) ?_)))
  rcases ah h_5 with⟨hc_6,h_5⟩|⟨hc_6,h_5⟩
  ·refine aD rfl hc_6 wz (aL (vI n_1) wa rfl (aL (vI high_3) wa rfl (aL (vB (decide (n_1<=high_3))) wa rfl (aa (vB (decide (n_1<=high_3))) (aa (vB (decide (n_1<=high_3))) (af ?_))))))
   obtain rfl:=ae h_5
   exact cu
  ·refine aD rfl hc_6 wz (ai (ai (ai (aa (vB false) (aa (vB false) (af ?_))))))
   obtain rfl:=ae h_5
   exact cu
 ·rintro ⟨⟩ _ sl_ H_ hp_ hq_
  refine aJ _ hp_ hq_ ?_
  obtain rfl:=ae hF
  exact aN (bz [(vB v_4)] ⟨rfl,trivial⟩)
theorem mZ {s_1:ByteArray} {c_2:Int} {r:Int} (hF:gy s_1 c_2=some r) :
  FnM Tryz.prog 86 [(vS s_1),(.d (.int .u8 c_2))] [] (vI r) []:=by
 refine FnM.of_wH ⟨Tryz.prog,8,[],[]⟩ rfl Tryz.func86 rfl rfl (lb_ rfl) (by kernel_rfl) ?_
 unfold gy at hF
 refine aj (aa (vI 0) (af (aj (aa (vS s_1) (aa (.d (.int .u8 c_2)) (h_ext (ext_ixB (f:=104) Tryz.func104 rfl rfl (by kernel_rfl) (by kernel_rfl) _ _) rfl nb104 rfl wz (aa (vI (ixB s_1 c_2)) (af ?_))))))))
 obtain rfl:=ae hF
 exact aN (bz [(vI (ixB s_1 c_2))] ⟨rfl,trivial⟩)
theorem sV {s_1:ByteArray} {c_2:Int} {r:Int} (hF:strings_IndexByte s_1 c_2=some r) :
  FnM Tryz.prog 63 [(vS s_1),(.d (.int .u8 c_2))] [] (vI r) []:=by
 refine FnM.of_wH ⟨Tryz.prog,8,[],[]⟩ rfl Tryz.func63 rfl rfl (lb_ rfl) (by kernel_rfl) ?_
 unfold strings_IndexByte at hF
 refine aj (aa (vI 0) (af (aj (aa (vS s_1) (aa (.d (.int .u8 c_2)) ?_)))))
 obtain ⟨r_3,hr_4,hF⟩:=bind_some hF
 refine aG (mZ hr_4) rfl hb86 rfl rfl rfl rfl wz (aa (vI r_3) (af ?_))
 obtain rfl:=ae hF
 exact aN (bz [(vI r_3)] ⟨rfl,trivial⟩)
theorem tq {s_1:ByteArray} {somev_2:ByteArray} {r:Bool} (hF:oF s_1 somev_2=some r) :
  FnM Tryz.prog 49 [(vS s_1),(vS somev_2)] [] (vB r) []:=by
 refine FnM.of_wH ⟨Tryz.prog,18,[],[]⟩ rfl Tryz.func49 rfl rfl (lb_ rfl) (by kernel_rfl) ?_
 unfold oF at hF
 refine aj (aa (vB false) (af (au (aj (aa (vS s_1) (tQ un9 rfl wz (aa (vI 0) (af ?_))))))))
 obtain ⟨o_11,hj_12,hF⟩:=bind_some hF
 obtain ⟨hn_7,hj_12⟩:=dI hj_12
 refine jE (λ(s_8:Unit)=>[]) (λ(s_8:Unit)=>[]) (λ(k_3:Nat)=>(λ(s_8:Unit)=>[(0,(vS s_1)),(1,(vS somev_2)),(7,(vI (s_1.size:Int))),(8,(vI (k_3:Int)))])) (λk x s=>mU s_1 somev_2 k x s) o_11 (List.range ((s_1.size:Int)).toNat) () hj_12 rfl (aC rfl) ?_ ?_
 ·rintro ⟨k_3,l_4,s_8⟩ ⟨hL_10,hD_6⟩
  dsimp only at hL_10 hD_6
  cases l_4 with
  | nil =>
   obtain rfl:=ae hL_10
   refine aj (aa (vB (decide ((k_3:Int)<(s_1.size:Int)))) (af ?_))
   refine au (aA rfl (qH hD_6) (aV ?_))
   exact aX (s_8) rfl rfl (aC rfl)
  | cons x_5 l_4 =>
   obtain ⟨c_,hc_9,hL_10⟩:=bind_some hL_10
   refine aj (aa (vB (decide ((k_3:Int)<(s_1.size:Int)))) (af ?_))
   refine au (aB rfl (pY hD_6) (ay ?_))
   unfold mU at hc_9
   refine au (aI (aj (aa (vI (k_3:Int)) (aa (vI (k_3:Int)) (af (aj (aa (vS somev_2) (aa (vS s_1) (aa (vI (k_3:Int)) ?_)))))))))
   obtain ⟨b_13,hy_14,hc_9⟩:=bind_some hc_9
   refine vo un9 rfl rfl hy_14 wz ?_
   obtain ⟨r_15,hr_16,hc_9⟩:=bind_some hc_9
   refine aG (sV hr_16) rfl hb63 rfl rfl rfl rfl wz (aa (vB (decide (r_15<0))) (af ?_))
   rcases ah hc_9 with⟨hc_17,hc_9⟩|⟨hc_17,hc_9⟩
   ·refine aB rfl hc_17 (aj (aa (vB false) (af ?_)))
    obtain rfl:=ae hc_9
    obtain rfl:=ae hL_10
    obtain rfl:=ae hF
    exact aN (bz [(vB false)] ⟨rfl,trivial⟩)
   ·refine aA rfl hc_17 (ay (av (lw (qP hD_6 hn_7) wz rfl (aa (vI ((k_3+1:Nat):Int)) (af ?_)))))
    obtain rfl:=ae hc_9
    exact aK (k_3+1,l_4,()) ⟨hL_10,bR hD_6⟩ (ls_ _) rfl (aC rfl)
 ·rintro s_8 ho_ sl_ H_ hp_ hq_
  subst ho_
  refine aJ _ hp_ hq_ (aj (aa (vB true) (af ?_)))
  obtain rfl:=ae hF
  exact aN (bz [(vB true)] ⟨rfl,trivial⟩)
theorem zW {s_1:ByteArray} {r:Bool} (hF:uh s_1=some r) :
  FnM Tryz.prog 46 [(vS s_1)] [] (vB r) []:=by
 refine FnM.of_wH ⟨Tryz.prog,15,[],[]⟩ rfl Tryz.func46 rfl rfl (lb_ rfl) (by kernel_rfl) ?_
 unfold uh at hF
 refine aj (aa (vB false) (af (au ?_)))
 obtain ⟨v_2,h_3,hF⟩:=bind_some hF
 refine aH [(2,(vB v_2))] [] ?_ ?_
 ·refine av (aa (vS s_1) (tQ un9 rfl wz ?_))
  obtain ⟨r_4,hr_5,h_3⟩:=bind_some h_3
  refine aG (uy hr_5) rfl hb47 rfl rfl rfl rfl wz ?_
  rcases ah h_3 with⟨hc_6,h_3⟩|⟨hc_6,h_3⟩
  ·refine aD rfl hc_6 wz (aL (vS s_1) wa rfl ?_)
   obtain ⟨y_7,hy_8,h_3⟩:=bind_some h_3
   refine Am un9 rfl rfl hy_8 wa ?_
   obtain ⟨r_9,hr_10,h_3⟩:=bind_some h_3
   refine aG (tq hr_10) rfl hb49 rfl rfl rfl rfl wa (aa (vB r_9) ?_)
   rcases ah h_3 with⟨hc_11,h_3⟩|⟨hc_11,h_3⟩
   ·refine aD rfl hc_11 wz (aL (vS s_1) wa rfl ?_)
    obtain ⟨r_12,hr_13,h_3⟩:=bind_some h_3
    refine aG (tq hr_13) rfl hb49 rfl rfl rfl rfl wa (aa (vB r_12) (aa (vB r_12) (af ?_)))
    obtain rfl:=ae h_3
    exact cu
   ·refine aD rfl hc_11 wz (ai (ai (aa (vB false) (aa (vB false) (af ?_)))))
    obtain rfl:=ae h_3
    exact cu
  ·refine aD rfl hc_6 wz (ai (ai (ai (aa (vB false) (aa (vB false) (ai (ai (aa (vB false) (aa (vB false) (af ?_))))))))))
   obtain rfl:=ae h_3
   exact cu
 ·rintro ⟨⟩ _ sl_ H_ hp_ hq_
  refine aJ _ hp_ hq_ ?_
  obtain rfl:=ae hF
  exact aN (bz [(vB v_2)] ⟨rfl,trivial⟩)
theorem AQ {atv_1:Int} {r:Bool} (hF:pu atv_1=some r) :
  FnM Tryz.prog 48 [(vI atv_1)] [] (vB r) []:=by
 refine FnM.of_wH ⟨Tryz.prog,5,[],[]⟩ rfl Tryz.func48 rfl rfl (lb_ rfl) (by kernel_rfl) ?_
 unfold pu at hF
 refine aj (aa (vB false) (af (aj (aa (vI atv_1) ?_))))
 obtain ⟨r_2,hr_3,hF⟩:=bind_some hF
 refine aG (uy hr_3) rfl hb47 rfl rfl rfl rfl wz (aa (vB r_2) (af ?_))
 obtain rfl:=ae hF
 exact aN (bz [(vB r_2)] ⟨rfl,trivial⟩)
theorem zy {l_1:Log_} {r:Int} (hF:ou l_1=some r) :
  FnM Tryz.prog 31 [(.d (.agg (Log_.enc l_1)))] [] (vI r) []:=by
 refine FnM.of_wH ⟨Tryz.prog,31,[],[]⟩ rfl Tryz.func31 rfl rfl (lb_ rfl) (by kernel_rfl) ?_
 unfold ou at hF
 refine aj (q8 0 (.inl rfl) (Log_.v l_1) rfl rfl wz (λn_2=>aa (vI 0) (af (au (aI (au ?_))))))
 obtain ⟨v_3,h_4,hF⟩:=bind_some hF
 refine aH [(1,(.ref n_2 0 0)),(3,(vB v_3))] [(n_2,some (.cells 6 (Log_.v l_1)))] ?_ ?_
 ·refine av (bD kv rfl 0 rfl wz (bE 0 0 il ft sz9 ag9 rfl rfl (vS l_1.Player) rfl wz ?_))
  obtain ⟨r_5,hr_6,h_4⟩:=bind_some h_4
  refine aG (zW hr_6) rfl hb46 rfl rfl rfl rfl wz (aa (vB (!r_5)) ?_)
  rcases ah h_4 with⟨hc_7,h_4⟩|⟨hc_7,h_4⟩
  ·refine aD rfl hc_7 wz (ai (ai (ai (ai (aa (vB true) (aa (vB true) (af ?_)))))))
   obtain rfl:=ae h_4
   exact cu
  ·refine aD rfl hc_7 wz (bD wV rfl 1 rfl wa (bE 0 0 il ft sz9 ag9 rfl rfl (vS l_1.Item) rfl wa ?_))
   obtain ⟨r_8,hr_9,h_4⟩:=bind_some h_4
   refine aG (zW hr_9) rfl hb46 rfl rfl rfl rfl wa (aL (vB (!r_8)) wa rfl (aa (vB (!r_8)) (aa (vB (!r_8)) (af ?_))))
   obtain rfl:=ae h_4
   exact cu
 ·rintro ⟨⟩ _ sl_ H_ hp_ hq_
  refine aJ _ hp_ hq_ ?_
  rcases ah hF with⟨hc_10,hF⟩|⟨hc_10,hF⟩
  ·refine aB rfl hc_10 (aj (aa (vI 5) (af ?_)))
   obtain rfl:=ae hF
   exact aN (bz [(vI 5)] ⟨rfl,trivial⟩)
  ·refine aA rfl hc_10 (au ?_)
   obtain ⟨v_11,h_12,hF⟩:=bind_some hF
   refine aH [(14,(vB v_11))] [(n_2,some (.cells 6 (Log_.v l_1)))] ?_ ?_
   ·refine av (bD kH rfl 2 rfl wz (bE 0 0 il ft sz3 ag3 rfl rfl (vI l_1.No) rfl wz ?_))
    obtain ⟨r_13,hr_14,h_12⟩:=bind_some h_12
    refine aG (uy hr_14) rfl hb47 rfl rfl rfl rfl wz (aa (vB (!r_13)) ?_)
    rcases ah h_12 with⟨hc_15,h_12⟩|⟨hc_15,h_12⟩
    ·refine aD rfl hc_15 wz (ai (ai (ai (ai (aa (vB true) (aa (vB true) (ai (ai (ai (ai (aa (vB true) (aa (vB true) (af ?_)))))))))))))
     obtain rfl:=ae h_12
     exact cu
    ·refine aD rfl hc_15 wz (bD zT rfl 3 rfl wa (bE 0 0 il ft sz3 ag3 rfl rfl (vI l_1.Clock) rfl wa ?_))
     obtain ⟨r_16,hr_17,h_12⟩:=bind_some h_12
     refine aG (AQ hr_17) rfl hb48 rfl rfl rfl rfl wa (aL (vB (!r_16)) wa rfl (aa (vB (!r_16)) ?_))
     rcases ah h_12 with⟨hc_18,h_12⟩|⟨hc_18,h_12⟩
     ·refine aD rfl hc_18 wz (ai (ai (ai (ai (aa (vB true) (aa (vB true) (af ?_)))))))
      obtain rfl:=ae h_12
      exact cu
     ·refine aD rfl hc_18 wz (bD wS rfl 4 rfl wa (bE 0 0 il ft sz3 ag3 rfl rfl (vI l_1.Long) rfl wa ?_))
      obtain ⟨r_19,hr_20,h_12⟩:=bind_some h_12
      refine aG (uy hr_20) rfl hb47 rfl rfl rfl rfl wa (aL (vB (!r_19)) wa rfl (aa (vB (!r_19)) (aa (vB (!r_19)) (af ?_))))
      obtain rfl:=ae h_12
      exact cu
   ·rintro ⟨⟩ _ sl_ H_ hp_ hq_
    refine aJ _ hp_ hq_ ?_
    rcases ah hF with⟨hc_21,hF⟩|⟨hc_21,hF⟩
    ·refine aB rfl hc_21 (aj (aa (vI 1) (af ?_)))
     obtain rfl:=ae hF
     exact aN (bz [(vI 1)] ⟨rfl,trivial⟩)
    ·refine aA rfl hc_21 (ay (aj (aa (vI 0) (af ?_))))
     obtain rfl:=ae hF
     exact aN (bz [(vI 0)] ⟨rfl,trivial⟩)
theorem Aq {s_1:ByteArray} {r:Bool} (hF:pM s_1=some r) :
  FnM Tryz.prog 32 [(vS s_1)] [] (vB r) []:=by
 refine FnM.of_wH ⟨Tryz.prog,10,[],[]⟩ rfl Tryz.func32 rfl rfl (lb_ rfl) (by kernel_rfl) ?_
 unfold pM at hF
 refine aj (aa (vB false) (af (au ?_)))
 obtain ⟨v_2,h_3,hF⟩:=bind_some hF
 refine aH [(2,(vB v_2))] [] ?_ ?_
 ·refine av (aa (vS s_1) (tQ un9 rfl wz (aa (vB ((s_1.size:Int)==16)) ?_)))
  rcases ah h_3 with⟨hc_4,h_3⟩|⟨hc_4,h_3⟩
  ·refine aD rfl hc_4 wz (aL (vS s_1) wa rfl ?_)
   obtain ⟨r_5,hr_6,h_3⟩:=bind_some h_3
   refine aG (tq hr_6) rfl hb49 rfl rfl rfl rfl wa (aa (vB r_5) (aa (vB r_5) (af ?_)))
   obtain rfl:=ae h_3
   exact cu
  ·refine aD rfl hc_4 wz (ai (ai (aa (vB false) (aa (vB false) (af ?_)))))
   obtain rfl:=ae h_3
   exact cu
 ·rintro ⟨⟩ _ sl_ H_ hp_ hq_
  refine aJ _ hp_ hq_ ?_
  obtain rfl:=ae hF
  exact aN (bz [(vB v_2)] ⟨rfl,trivial⟩)
theorem D8 {n_1:Int} {r:Int} (hF:sO n_1=some r) :
  FnM Tryz.prog 50 [(vI n_1)] [] (vI r) []:=by
 refine FnM.of_wH ⟨Tryz.prog,9,[],[]⟩ rfl Tryz.func50 rfl rfl (lb_ rfl) (by kernel_rfl) ?_
 unfold sO at hF
 refine aj (aa (vI 0) (af (au (aI (aj (aa (vI n_1) (aa (vB (decide (n_1<0))) (aa (vB (decide (n_1<0))) (af ?_)))))))))
 rcases ah hF with⟨hc_2,hF⟩|⟨hc_2,hF⟩
 ·refine aB rfl hc_2 (aj (aa (vI (-1)) (af ?_)))
  obtain rfl:=ae hF
  exact aN (bz [(vI (-1))] ⟨rfl,trivial⟩)
 ·refine aA rfl hc_2 (aj (aa (vI n_1) (aa (vB (decide (n_1>0))) (aa (vB (decide (n_1>0))) (af ?_)))))
  rcases ah hF with⟨hc_3,hF⟩|⟨hc_3,hF⟩
  ·refine aB rfl hc_3 (aj (aa (vI 1) (af ?_)))
   obtain rfl:=ae hF
   exact aN (bz [(vI 1)] ⟨rfl,trivial⟩)
  ·refine aA rfl hc_3 (ay (aj (aa (vI 0) (af ?_))))
   obtain rfl:=ae hF
   exact aN (bz [(vI 0)] ⟨rfl,trivial⟩)
theorem bW {a_1:Log_} {b_2:Log_} {r:Int} (hF:bU a_1 b_2=some r) :
  FnM Tryz.prog 33 [(.d (.agg (Log_.enc a_1))),(.d (.agg (Log_.enc b_2)))] [] (vI r) []:=by
 refine FnM.of_wH ⟨Tryz.prog,21,[],[]⟩ rfl Tryz.func33 rfl rfl (lb_ rfl) (by kernel_rfl) ?_
 unfold bU at hF
 refine aj (q8 0 (.inl rfl) (Log_.v a_1) rfl rfl wz (λn_3=>q8 0 (.inl rfl) (Log_.v b_2) rfl rfl wz (λn_4=>aa (vI 0) (af (au (aj (bD kv rfl 0 rfl wz (bE 0 0 il ft sz9 ag9 rfl rfl (vS a_1.Player) rfl wz (bD kv rfl 0 rfl wz (bE 0 1 il ft sz9 ag9 rfl rfl (vS b_2.Player) rfl wz (aa (vB (sNe a_1.Player b_2.Player)) (af ?_))))))))))))
 rcases ah hF with⟨hc_5,hF⟩|⟨hc_5,hF⟩
 ·refine aB rfl hc_5 (aj (bD kv rfl 0 rfl wz (bE 0 0 il ft sz9 ag9 rfl rfl (vS a_1.Player) rfl wz (bD kv rfl 0 rfl wz (bE 0 1 il ft sz9 ag9 rfl rfl (vS b_2.Player) rfl wz ?_)))))
  obtain ⟨r_6,hr_7,hF⟩:=bind_some hF
  refine aG (mF hr_7) rfl hb42 rfl rfl rfl rfl wz (aa (vI r_6) (af ?_))
  obtain rfl:=ae hF
  exact aN (bz [(vI r_6)] ⟨rfl,trivial⟩)
 ·refine aA rfl hc_5 (ay (aj (bD kH rfl 2 rfl wz (bE 0 0 il ft sz3 ag3 rfl rfl (vI a_1.No) rfl wz (bD kH rfl 2 rfl wz (bE 0 1 il ft sz3 ag3 rfl rfl (vI b_2.No) rfl wz (aa (vI (w64 (a_1.No-b_2.No))) ?_)))))))
  obtain ⟨r_8,hr_9,hF⟩:=bind_some hF
  refine aG (D8 hr_9) rfl hb50 rfl rfl rfl rfl wz (aa (vI r_8) (af ?_))
  obtain rfl:=ae hF
  exact aN (bz [(vI r_8)] ⟨rfl,trivial⟩)
theorem qN {l_1:(List Log_)} {r:Int} (hF:lI l_1=some r) :
  FnM Tryz.prog 12 [(vL Log_.enc l_1)] [] (vI r) []:=by
 refine FnM.of_wH ⟨Tryz.prog,40,[],[]⟩ rfl Tryz.func12 rfl rfl (lb_ rfl) (by kernel_rfl) ?_
 unfold lI at hF
 refine aj (aa (vI 0) (af (au (aj (aa (vL Log_.enc l_1) (iT lK rfl wz (aa (vB (decide ((l_1.length:Int)>2000))) (af ?_))))))))
 rcases ah hF with⟨hc_2,hF⟩|⟨hc_2,hF⟩
 ·refine aB rfl hc_2 (aj (aa (vI 2) (af ?_)))
  obtain rfl:=ae hF
  exact aN (bz [(vI 2)] ⟨rfl,trivial⟩)
 ·refine aA rfl hc_2 (ay (au (aj (aa (vL Log_.enc l_1) (iT lK rfl wz (aa (vI 0) (af ?_)))))))
  obtain ⟨o_11,hj_12,hF⟩:=bind_some hF
  obtain ⟨hn_7,hj_12⟩:=dI hj_12
  refine jE (λ(s_8:Unit)=>[]) (λ(s_8:Unit)=>[]) (λ(k_3:Nat)=>(λ(s_8:Unit)=>[(0,(vL Log_.enc l_1)),(9,(vL Log_.enc l_1)),(10,(vI (l_1.length:Int))),(11,(vI (k_3:Int)))])) (λk x s=>l7 l_1 k x s) o_11 l_1 () hj_12 rfl (aC rfl) ?_ ?_
  ·rintro ⟨k_3,l_4,s_8⟩ ⟨hL_10,hD_6⟩
   dsimp only at hL_10 hD_6
   cases l_4 with
   | nil =>
    obtain rfl:=ae hL_10
    refine aj (aa (vB (decide ((k_3:Int)<(l_1.length:Int)))) (af ?_))
    refine au (aA rfl (drop_nil hD_6) (aV ?_))
    exact aX (s_8) rfl rfl (aC rfl)
   | cons x_5 l_4 =>
    obtain ⟨c_,hc_9,hL_10⟩:=bind_some hL_10
    refine aj (aa (vB (decide ((k_3:Int)<(l_1.length:Int)))) (af ?_))
    refine au (aB rfl (iy hD_6) (ay ?_))
    unfold l7 at hc_9
    refine au (aI (aj (aa (vI (k_3:Int)) (jQ bg rfl rfl (iW hD_6) rfl wz (fO bf bL rfl (.d (.agg (Log_.enc x_5))) rfl wz (nk 0 (.inl rfl) z31 rfl wz (λn_13=>aa (vI (k_3:Int)) (qY 0 il ft 0 bf rfl rfl (Log_.v x_5) rfl wz (af (au (aj (bE 0 0 il ft bf bL rfl rfl (.d (.agg (Log_.enc x_5))) rfl wz ?_))))))))))))
    obtain ⟨r_14,hr_15,hc_9⟩:=bind_some hc_9
    refine aG (zy hr_15) rfl hb31 rfl rfl rfl rfl wz (aa (vI r_14) (af (aj (aa (vI r_14) (aa (vB (r_14 != 0)) (af ?_))))))
    rcases ah hc_9 with⟨hc_16,hc_9⟩|⟨hc_16,hc_9⟩
    ·refine aB rfl hc_16 (aj (aa (vI r_14) (aa (vI r_14) (af ?_))))
     obtain rfl:=ae hc_9
     obtain rfl:=ae hL_10
     obtain rfl:=ae hF
     exact aN (bz [(vI r_14)] ⟨rfl,trivial⟩)
    ·refine aA rfl hc_16 (ay (aI (aj (bD oH rfl 5 rfl wz (bE 0 0 il ft sz9 ag9 rfl rfl (vS x_5.Sum) rfl wz ?_)))))
     obtain ⟨r_17,hr_18,hc_9⟩:=bind_some hc_9
     refine aG (Aq hr_18) rfl hb32 rfl rfl rfl rfl wz (aa (vB (!r_17)) (aa (vB (!r_17)) (af ?_)))
     rcases ah hc_9 with⟨hc_19,hc_9⟩|⟨hc_19,hc_9⟩
     ·refine aB rfl hc_19 (aj (aa (vI 3) (af ?_)))
      obtain rfl:=ae hc_9
      obtain rfl:=ae hL_10
      obtain rfl:=ae hF
      exact aN (bz [(vI 3)] ⟨rfl,trivial⟩)
     ·refine aA rfl hc_19 (au ?_)
      obtain ⟨v_20,h_21,hc_9⟩:=bind_some hc_9
      refine aH [(0,(vL Log_.enc l_1)),(9,(vL Log_.enc l_1)),(10,(vI (l_1.length:Int))),(11,(vI (k_3:Int))),(26,(vB v_20))] [(n_13,some (.cells 6 (Log_.v x_5)))] ?_ ?_
      ·refine aQ (aa (vI (k_3:Int)) (aa (vB (decide ((k_3:Int)>0))) ?_))
       rcases ah h_21 with⟨hc_22,h_21⟩|⟨hc_22,h_21⟩
       ·refine aD rfl hc_22 wz (aL (vL Log_.enc l_1) wa rfl (aL (vI (k_3:Int)) wa rfl (aL (vI (w64 ((k_3:Int)-1))) wa rfl ?_)))
        obtain ⟨y_23,hy_24,h_21⟩:=bind_some h_21
        refine jQ bg rfl rfl hy_24 rfl wa (fO bf bL rfl (.d (.agg (Log_.enc y_23))) rfl wa (bE 8 0 (.inr (by kernel_rfl)) (λ_ _ ag=>trivial) bf bL rfl rfl (.d (.agg (Log_.enc x_5))) rfl wa ?_))
        obtain ⟨r_25,hr_26,h_21⟩:=bind_some h_21
        refine aG (bW hr_26) rfl uY rfl rfl rfl rfl wa (aL (vB (decide (r_25>=0))) wa rfl (aa (vB (decide (r_25>=0))) (aa (vB (decide (r_25>=0))) (af ?_))))
        obtain rfl:=ae h_21
        exact cu
       ·refine aD rfl hc_22 wz (ai (ai (ai (ai (ai (ai (ai (ai (aa (vB false) (aa (vB false) (af ?_)))))))))))
        obtain rfl:=ae h_21
        exact cu
      ·rintro ⟨⟩ _ sl_ H_ hp_ hq_
       refine aJ _ hp_ hq_ ?_
       rcases ah hc_9 with⟨hc_27,hc_9⟩|⟨hc_27,hc_9⟩
       ·refine aB rfl hc_27 (aj (aa (vI 7) (af ?_)))
        obtain rfl:=ae hc_9
        obtain rfl:=ae hL_10
        obtain rfl:=ae hF
        exact aN (bz [(vI 7)] ⟨rfl,trivial⟩)
       ·refine aA rfl hc_27 (ay (av (lw (iB hD_6 hn_7) wz rfl (aa (vI ((k_3+1:Nat):Int)) (af ?_)))))
        obtain rfl:=ae hc_9
        exact aK (k_3+1,l_4,()) ⟨hL_10,bR hD_6⟩ (ls_ _) rfl (aC rfl)
  ·rintro s_8 ho_ sl_ H_ hp_ hq_
   subst ho_
   refine aJ _ hp_ hq_ (aj (aa (vI 0) (af ?_)))
   obtain rfl:=ae hF
   exact aN (bz [(vI 0)] ⟨rfl,trivial⟩)
theorem Ew {l_1:(List Int)} {r:Int} (hF:rq l_1=some r) :
  FnM Tryz.prog 13 [(vL eI l_1)] [] (vI r) []:=by
 refine FnM.of_wH ⟨Tryz.prog,15,[],[]⟩ rfl Tryz.func13 rfl rfl (lb_ rfl) (by kernel_rfl) ?_
 unfold rq at hF
 refine aj (aa (vI 0) (af (au (aj (aa (vL eI l_1) (iT un58 rfl wz (aa (vI 0) (af ?_))))))))
 obtain ⟨o_10,hj_11,hF⟩:=bind_some hF
 obtain ⟨hn_6,hj_11⟩:=dI hj_11
 refine jE (λ(s_7:Unit)=>[]) (λ(s_7:Unit)=>[]) (λ(k_2:Nat)=>(λ(s_7:Unit)=>[(5,(vL eI l_1)),(6,(vI (l_1.length:Int))),(7,(vI (k_2:Int)))])) (λk x s=>qy k x s) o_10 l_1 () hj_11 rfl (aC rfl) ?_ ?_
 ·rintro ⟨k_2,l_3,s_7⟩ ⟨hL_9,hD_5⟩
  dsimp only at hL_9 hD_5
  cases l_3 with
  | nil =>
   obtain rfl:=ae hL_9
   refine aj (aa (vB (decide ((k_2:Int)<(l_1.length:Int)))) (af ?_))
   refine au (aA rfl (drop_nil hD_5) (aV ?_))
   exact aX (s_7) rfl rfl (aC rfl)
  | cons x_4 l_3 =>
   obtain ⟨c_,hc_8,hL_9⟩:=bind_some hL_9
   refine aj (aa (vB (decide ((k_2:Int)<(l_1.length:Int)))) (af ?_))
   refine au (aB rfl (iy hD_5) (ay ?_))
   unfold qy at hc_8
   refine au (aI (aj (jQ es58 rfl rfl (iW hD_5) rfl wz (fO sz34 ag34 rfl (vI x_4) rfl wz (aa (vI x_4) (af (aj (aa (vI x_4) (aa (vB (x_4 != 0)) (af ?_))))))))))
   rcases ah hc_8 with⟨hc_12,hc_8⟩|⟨hc_12,hc_8⟩
   ·refine aB rfl hc_12 (aj (aa (vI x_4) (aa (vI x_4) (af ?_))))
    obtain rfl:=ae hc_8
    obtain rfl:=ae hL_9
    obtain rfl:=ae hF
    exact aN (bz [(vI x_4)] ⟨rfl,trivial⟩)
   ·refine aA rfl hc_12 (ay (av (lw (iB hD_5 hn_6) wz rfl (aa (vI ((k_2+1:Nat):Int)) (af ?_)))))
    obtain rfl:=ae hc_8
    exact aK (k_2+1,l_3,()) ⟨hL_9,bR hD_5⟩ (ls_ _) rfl (aC rfl)
 ·rintro s_7 ho_ sl_ H_ hp_ hq_
  subst ho_
  refine aJ _ hp_ hq_ (aj (aa (vI 0) (af ?_)))
  obtain rfl:=ae hF
  exact aN (bz [(vI 0)] ⟨rfl,trivial⟩)
theorem iY {data_1:(List Log_)} {a_2:Int} {b_3:Int} {r:(List Log_)} (hF:dB data_1 a_2 b_3=some r) :
  FnM Tryz.prog 56 [(dV (ak 0) 6 data_1),(vI a_2),(vI b_3),(.fn 33 [])] (([]:List Box)++gI 6 Log_.enc data_1) (.tup []) (([]:List Box).map some++gT data_1 (gB 6 Log_.enc r)):=by
 refine FnM.of_wHv ⟨Tryz.prog,53,[],[]⟩ rfl Tryz.func56 rfl rfl (lb_ rfl) (by kernel_rfl) ?_
 unfold dB at hF
 refine aj (aa (vI a_2) (aa (vI (w64 (a_2+1))) (aa (vI (w64 (a_2+1))) (af ?_))))
 obtain ⟨o_13,hj_14,hF⟩:=bind_some hF
 obtain ⟨nq_51,hj_14⟩:=aP hj_14
 refine aU (λ(s_10:(List Log_)×Int)=>[]) (λ(s_10:(List Log_)×Int)=>[((ak 0),gB 6 Log_.enc s_10.1)]) (λ(k_5:Nat)=>(λ(s_10:(List Log_)×Int)=>[(0,(dV (ak 0) 6 s_10.1)),(1,(vI a_2)),(2,(vI b_3)),(3,(.fn 33 [])),(8,(vI s_10.2))])) (λs=>dW b_3 a_2 s) o_13 nq_51 (data_1,(w64 (a_2+1))) hj_14 rfl (aC rfl) ?_ ?_
 ·rintro ⟨k_5,s_10⟩ hL_12
  dsimp only at hL_12
  cases k_5 with
  | zero=>cases hL_12
  | succ k_5 =>
   obtain ⟨c_,hc_11,hL_12⟩:=bind_some hL_12
   unfold dW at hc_11
   refine au (aj (aa (vI s_10.2) (aa (vI b_3) (aa (vB (decide (s_10.2<b_3))) (af ?_)))))
   rcases ah hc_11 with⟨hc_15,hc_11⟩|⟨hc_15,hc_11⟩
   ·refine aB rfl hc_15 (ay (au (aI (aj (aa (vI s_10.2) (aa (vI s_10.2) (af ?_)))))))
    obtain ⟨o_24,hj_25,hc_11⟩:=bind_some hc_11
    obtain ⟨nq_50,hj_25⟩:=aP hj_25
    refine aU (λ(s_21:(List Log_)×Int)=>[(0,(dV (ak 0) 6 s_21.1)),(1,(vI a_2)),(2,(vI b_3)),(3,(.fn 33 [])),(8,(vI s_10.2))]) (λ(s_21:(List Log_)×Int)=>[((ak 0),gB 6 Log_.enc s_21.1)]) (λ(k_16:Nat)=>(λ(s_21:(List Log_)×Int)=>[(0,(dV (ak 0) 6 s_21.1)),(1,(vI a_2)),(2,(vI b_3)),(3,(.fn 33 [])),(8,(vI s_10.2)),(9,(vI s_21.2))])) (λs=>dU a_2 s) o_24 nq_50 (s_10.1,s_10.2) hj_25 rfl (aC rfl) ?_ ?_
    ·rintro ⟨k_16,s_21⟩ hL_23
     dsimp only at hL_23
     cases k_16 with
     | zero=>cases hL_23
     | succ k_16 =>
      obtain ⟨c_,hc_22,hL_23⟩:=bind_some hL_23
      unfold dU at hc_22
      refine au (au ?_)
      obtain ⟨v_26,h_27,hc_22⟩:=bind_some hc_22
      refine aH [(0,(dV (ak 0) 6 s_21.1)),(1,(vI a_2)),(2,(vI b_3)),(3,(.fn 33 [])),(8,(vI s_10.2)),(9,(vI s_21.2)),(34,(vB v_26))] [((ak 0),gB 6 Log_.enc s_21.1)] ?_ ?_
      ·refine aQ (aa (vI s_21.2) (aa (vI a_2) (aa (vB (decide (s_21.2>a_2))) ?_)))
       rcases ah h_27 with⟨hc_28,h_27⟩|⟨hc_28,h_27⟩
       ·refine aD rfl hc_28 wz (aL (.fn 33 []) wa rfl (aL (dV (ak 0) 6 s_21.1) wa rfl (aL (vI s_21.2) wa rfl ?_)))
        obtain ⟨_,hi_29,h_27⟩:=bind_some h_27
        refine aO bg rfl rfl (aW hi_29) (aM hi_29) wa ?_
        obtain ⟨e_30,hy_31,h_27⟩:=bind_some h_27
        refine aZ 8 0 (.inr (by kernel_rfl)) (λ_ _ ag=>trivial) bf bL rfl rfl hy_31 (.d (.agg (Log_.enc e_30))) rfl wa (aL (dV (ak 0) 6 s_21.1) wa rfl (aL (vI s_21.2) wa rfl (aL (vI (w64 (s_21.2-1))) wa rfl ?_)))
        obtain ⟨_,hi_32,h_27⟩:=bind_some h_27
        refine aO bg rfl rfl (aW hi_32) (aM hi_32) wa ?_
        obtain ⟨e_33,hy_34,h_27⟩:=bind_some h_27
        refine aZ 13 0 (.inr (by kernel_rfl)) (λ_ _ ag=>⟨.inl ⟨rfl,rfl⟩,trivial⟩) bf bL rfl rfl hy_34 (.d (.agg (Log_.enc e_33))) rfl wa ?_
        obtain ⟨r_35,hr_36,h_27⟩:=bind_some h_27
        refine aG (bW hr_36) rfl uY rfl rfl rfl rfl wa (aL (vB (decide (r_35<0))) wa rfl (aa (vB (decide (r_35<0))) (af ?_)))
        obtain rfl:=ae h_27
        exact cu
       ·refine aD rfl hc_28 wz (ai (ai (ai (ai (ai (ai (ai (ai (ai (ai (ai (ai (aa (vB false) (af ?_))))))))))))))
        obtain rfl:=ae h_27
        exact cu
      ·rintro ⟨⟩ _ sl_ H_ hp_ hq_
       refine aJ _ hp_ hq_ ?_
       rcases ah hc_22 with⟨hc_37,hc_22⟩|⟨hc_37,hc_22⟩
       ·refine aB rfl hc_37 (ay (au (aI (aQ (aa (dV (ak 0) 6 s_21.1) (aa (vI s_21.2) (aa (dV (ak 0) 6 s_21.1) (aa (vI s_21.2) (aa (vI (w64 (s_21.2-1))) (aa (dV (ak 0) 6 s_21.1) (aa (vI s_21.2) (aa (vI (w64 (s_21.2-1))) ?_))))))))))))
        obtain ⟨_,hi_38,hc_22⟩:=bind_some hc_22
        refine aO bg rfl rfl (aW hi_38) (aM hi_38) wz ?_
        obtain ⟨e_39,hy_40,hc_22⟩:=bind_some hc_22
        refine aZ 9 0 (.inr (by kernel_rfl)) (λ_ _ ag=>trivial) bf bL rfl rfl hy_40 (.d (.agg (Log_.enc e_39))) rfl wz (aa (dV (ak 0) 6 s_21.1) (aa (vI s_21.2) ?_))
        obtain ⟨_,hi_41,hc_22⟩:=bind_some hc_22
        refine aO bg rfl rfl (aW hi_41) (aM hi_41) wz ?_
        obtain ⟨e_42,hy_43,hc_22⟩:=bind_some hc_22
        refine aZ 13 0 (.inr (by kernel_rfl)) (λ_ _ ag=>⟨.inl ⟨rfl,rfl⟩,trivial⟩) bf bL rfl rfl hy_43 (.d (.agg (Log_.enc e_42))) rfl wz ?_
        obtain ⟨_,hi_44,hc_22⟩:=bind_some hc_22
        refine aO bg rfl rfl (aW hi_44) (aM hi_44) wz ?_
        obtain ⟨e_45,hy_46,hc_22⟩:=bind_some hc_22
        refine cO 15 (.inr (by kernel_rfl)) (λ_ _ ag=>⟨.inr (.inr (by kernel_rfl)),⟨.inr (.inr (by kernel_rfl)),trivial⟩⟩) 0 bf rfl rfl hy_46 e_39 rfl wz (aF (v':=(dV (ak 0) 6 (s_21.1.set (0+(s_21.2).toNat) e_39))) 0 rfl (ax (by simp)) (aF (v':=(dV (ak 0) 6 (s_21.1.set (0+(s_21.2).toNat) e_39))) 37 rfl (ax (by simp)) (aF (v':=(dV (ak 0) 6 (s_21.1.set (0+(s_21.2).toNat) e_39))) 39 rfl (ax (by simp)) (aF (v':=(dV (ak 0) 6 (s_21.1.set (0+(s_21.2).toNat) e_39))) 42 rfl (ax (by simp)) (aF (v':=(dV (ak 0) 6 (s_21.1.set (0+(s_21.2).toNat) e_39))) 47 rfl (ax (by simp)) ?_)))))
        obtain ⟨_,hi_47,hc_22⟩:=bind_some hc_22
        refine aO bg rfl rfl (aW hi_47) (aM hi_47) wz ?_
        obtain ⟨e_48,hy_49,hc_22⟩:=bind_some hc_22
        refine cO 17 (.inr (by kernel_rfl)) (λ_ _ ag=>⟨.inr (.inr (by kernel_rfl)),⟨.inr (.inr (by kernel_rfl)),⟨.inr (.inr (by kernel_rfl)),trivial⟩⟩⟩) 0 bf rfl rfl hy_49 e_42 rfl wz (aF (v':=(dV (ak 0) 6 ((s_21.1.set (0+(s_21.2).toNat) e_39).set (0+((w64 (s_21.2-1))).toNat) e_42))) 0 rfl (ax (by simp)) (aF (v':=(dV (ak 0) 6 ((s_21.1.set (0+(s_21.2).toNat) e_39).set (0+((w64 (s_21.2-1))).toNat) e_42))) 37 rfl (ax (by simp)) (aF (v':=(dV (ak 0) 6 ((s_21.1.set (0+(s_21.2).toNat) e_39).set (0+((w64 (s_21.2-1))).toNat) e_42))) 39 rfl (ax (by simp)) (aF (v':=(dV (ak 0) 6 ((s_21.1.set (0+(s_21.2).toNat) e_39).set (0+((w64 (s_21.2-1))).toNat) e_42))) 42 rfl (ax (by simp)) (aF (v':=(dV (ak 0) 6 ((s_21.1.set (0+(s_21.2).toNat) e_39).set (0+((w64 (s_21.2-1))).toNat) e_42))) 47 rfl (ax (by simp)) (af (av (aa (vI s_21.2) (aa (vI (w64 (s_21.2-1))) (aa (vI (w64 (s_21.2-1))) (af ?_)))))))))))
        obtain rfl:=ae hc_22
        exact aK (k_16,(((s_21.1.set (0+(s_21.2).toNat) e_39).set (0+((w64 (s_21.2-1))).toNat) e_42),(w64 (s_21.2-1)))) hL_23 (ls_ _) rfl (aC rfl)
       ·refine aA rfl hc_37 (aV ?_)
        obtain rfl:=ae hc_22
        obtain rfl:=ae hL_23
        exact aX ((s_21.1,s_21.2)) rfl rfl (aC rfl)
    ·rintro s_21 ho_ sl_ H_ hp_ hq_
     subst ho_
     refine aJ _ hp_ hq_ (av (aa (vI s_10.2) (aa (vI (w64 (s_10.2+1))) (aa (vI (w64 (s_10.2+1))) (af ?_)))))
     obtain rfl:=ae hc_11
     exact aK (k_5,(s_21.1,(w64 (s_10.2+1)))) hL_12 (ls_ _) rfl (aC rfl)
   ·refine aA rfl hc_15 (aV ?_)
    obtain rfl:=ae hc_11
    obtain rfl:=ae hL_12
    exact aX ((s_10.1,s_10.2)) rfl rfl (aC rfl)
 ·rintro s_10 ho_ sl_ H_ hp_ hq_
  subst ho_
  show lJ _ _ _ _ _ _ _ _
  obtain rfl:=ae hF
  exact uB (H0:=([((ak 0),gB 6 Log_.enc s_10.1)]:Hp)) (sl':=envS []) hq_ (jO (bs:=([]:List Box)) (os:=([]:List Box)) (xs:=data_1) (o:=gB 6 Log_.enc s_10.1) (.inl rfl) [] trivial rfl rfl rfl rfl rfl (by kernel_rfl) bM rfl)
theorem gG {data_1:(List Log_)} {a_2:Int} {b_3:Int} {n_4:Int} {r:(List Log_)} (hF:di data_1 a_2 b_3 n_4=some r) :
  FnM Tryz.prog 93 [(dV (ak 0) 6 data_1),(vI a_2),(vI b_3),(vI n_4),(.fn 33 [])] (([]:List Box)++gI 6 Log_.enc data_1) (.tup []) (([]:List Box).map some++gT data_1 (gB 6 Log_.enc r)):=by
 refine FnM.of_wHv ⟨Tryz.prog,38,[],[]⟩ rfl Tryz.func93 rfl rfl (lb_ rfl) (by kernel_rfl) ?_
 unfold di at hF
 refine aj (aa (vI 0) (af ?_))
 obtain ⟨o_14,hj_15,hF⟩:=bind_some hF
 obtain ⟨nq_29,hj_15⟩:=aP hj_15
 refine aU (λ(s_11:(List Log_)×Int)=>[]) (λ(s_11:(List Log_)×Int)=>[((ak 0),gB 6 Log_.enc s_11.1)]) (λ(k_6:Nat)=>(λ(s_11:(List Log_)×Int)=>[(0,(dV (ak 0) 6 s_11.1)),(1,(vI a_2)),(2,(vI b_3)),(3,(vI n_4)),(10,(vI s_11.2))])) (λs=>gq n_4 b_3 a_2 s) o_14 nq_29 (data_1,0) hj_15 rfl (aC rfl) ?_ ?_
 ·rintro ⟨k_6,s_11⟩ hL_13
  dsimp only at hL_13
  cases k_6 with
  | zero=>cases hL_13
  | succ k_6 =>
   obtain ⟨c_,hc_12,hL_13⟩:=bind_some hL_13
   unfold gq at hc_12
   refine au (aj (aa (vI s_11.2) (aa (vI n_4) (aa (vB (decide (s_11.2<n_4))) (af ?_)))))
   rcases ah hc_12 with⟨hc_16,hc_12⟩|⟨hc_16,hc_12⟩
   ·refine aB rfl hc_16 (ay (au (aI (aQ (aa (dV (ak 0) 6 s_11.1) (aa (vI a_2) (aa (vI s_11.2) (aa (vI (w64 (a_2+s_11.2))) (aa (dV (ak 0) 6 s_11.1) (aa (vI b_3) (aa (vI s_11.2) (aa (vI (w64 (b_3+s_11.2))) (aa (dV (ak 0) 6 s_11.1) (aa (vI b_3) (aa (vI s_11.2) (aa (vI (w64 (b_3+s_11.2))) ?_))))))))))))))))
    obtain ⟨_,hi_17,hc_12⟩:=bind_some hc_12
    refine aO bg rfl rfl (aW hi_17) (aM hi_17) wz ?_
    obtain ⟨e_18,hy_19,hc_12⟩:=bind_some hc_12
    refine aZ 13 0 (.inr (by kernel_rfl)) (λ_ _ ag=>trivial) bf bL rfl rfl hy_19 (.d (.agg (Log_.enc e_18))) rfl wz (aa (dV (ak 0) 6 s_11.1) (aa (vI a_2) (aa (vI s_11.2) (aa (vI (w64 (a_2+s_11.2))) ?_))))
    obtain ⟨_,hi_20,hc_12⟩:=bind_some hc_12
    refine aO bg rfl rfl (aW hi_20) (aM hi_20) wz ?_
    obtain ⟨e_21,hy_22,hc_12⟩:=bind_some hc_12
    refine aZ 19 0 (.inr (by kernel_rfl)) (λ_ _ ag=>⟨.inl ⟨rfl,rfl⟩,trivial⟩) bf bL rfl rfl hy_22 (.d (.agg (Log_.enc e_21))) rfl wz ?_
    obtain ⟨_,hi_23,hc_12⟩:=bind_some hc_12
    refine aO bg rfl rfl (aW hi_23) (aM hi_23) wz ?_
    obtain ⟨e_24,hy_25,hc_12⟩:=bind_some hc_12
    refine cO 21 (.inr (by kernel_rfl)) (λ_ _ ag=>⟨.inr (.inr (by kernel_rfl)),⟨.inr (.inr (by kernel_rfl)),trivial⟩⟩) 0 bf rfl rfl hy_25 e_18 rfl wz (aF (v':=(dV (ak 0) 6 (s_11.1.set (0+((w64 (a_2+s_11.2))).toNat) e_18))) 0 rfl (ax (by simp)) (aF (v':=(dV (ak 0) 6 (s_11.1.set (0+((w64 (a_2+s_11.2))).toNat) e_18))) 16 rfl (ax (by simp)) (aF (v':=(dV (ak 0) 6 (s_11.1.set (0+((w64 (a_2+s_11.2))).toNat) e_18))) 20 rfl (ax (by simp)) (aF (v':=(dV (ak 0) 6 (s_11.1.set (0+((w64 (a_2+s_11.2))).toNat) e_18))) 24 rfl (ax (by simp)) (aF (v':=(dV (ak 0) 6 (s_11.1.set (0+((w64 (a_2+s_11.2))).toNat) e_18))) 30 rfl (ax (by simp)) ?_)))))
    obtain ⟨_,hi_26,hc_12⟩:=bind_some hc_12
    refine aO bg rfl rfl (aW hi_26) (aM hi_26) wz ?_
    obtain ⟨e_27,hy_28,hc_12⟩:=bind_some hc_12
    refine cO 23 (.inr (by kernel_rfl)) (λ_ _ ag=>⟨.inr (.inr (by kernel_rfl)),⟨.inr (.inr (by kernel_rfl)),⟨.inr (.inr (by kernel_rfl)),trivial⟩⟩⟩) 0 bf rfl rfl hy_28 e_21 rfl wz (aF (v':=(dV (ak 0) 6 ((s_11.1.set (0+((w64 (a_2+s_11.2))).toNat) e_18).set (0+((w64 (b_3+s_11.2))).toNat) e_21))) 0 rfl (ax (by simp)) (aF (v':=(dV (ak 0) 6 ((s_11.1.set (0+((w64 (a_2+s_11.2))).toNat) e_18).set (0+((w64 (b_3+s_11.2))).toNat) e_21))) 16 rfl (ax (by simp)) (aF (v':=(dV (ak 0) 6 ((s_11.1.set (0+((w64 (a_2+s_11.2))).toNat) e_18).set (0+((w64 (b_3+s_11.2))).toNat) e_21))) 20 rfl (ax (by simp)) (aF (v':=(dV (ak 0) 6 ((s_11.1.set (0+((w64 (a_2+s_11.2))).toNat) e_18).set (0+((w64 (b_3+s_11.2))).toNat) e_21))) 24 rfl (ax (by simp)) (aF (v':=(dV (ak 0) 6 ((s_11.1.set (0+((w64 (a_2+s_11.2))).toNat) e_18).set (0+((w64 (b_3+s_11.2))).toNat) e_21))) 30 rfl (ax (by simp)) (af (av (aa (vI s_11.2) (aa (vI (w64 (s_11.2+1))) (aa (vI (w64 (s_11.2+1))) (af ?_)))))))))))
    obtain rfl:=ae hc_12
    exact aK (k_6,(((s_11.1.set (0+((w64 (a_2+s_11.2))).toNat) e_18).set (0+((w64 (b_3+s_11.2))).toNat) e_21),(w64 (s_11.2+1)))) hL_13 (ls_ _) rfl (aC rfl)
   ·refine aA rfl hc_16 (aV ?_)
    obtain rfl:=ae hc_12
    obtain rfl:=ae hL_13
    exact aX ((s_11.1,s_11.2)) rfl rfl (aC rfl)
 ·rintro s_11 ho_ sl_ H_ hp_ hq_
  subst ho_
  show lJ _ _ _ _ _ _ _ _
  obtain rfl:=ae hF
  exact uB (H0:=([((ak 0),gB 6 Log_.enc s_11.1)]:Hp)) (sl':=envS []) hq_ (jO (bs:=([]:List Box)) (os:=([]:List Box)) (xs:=data_1) (o:=gB 6 Log_.enc s_11.1) (.inl rfl) [] trivial rfl rfl rfl rfl rfl (by kernel_rfl) bM rfl)
theorem dQ {data_1:(List Log_)} {a_2:Int} {m_3:Int} {b_4:Int} {r:(List Log_)} (hF:cB data_1 a_2 m_3 b_4=some r) :
  FnM Tryz.prog 76 [(dV (ak 0) 6 data_1),(vI a_2),(vI m_3),(vI b_4),(.fn 33 [])] (([]:List Box)++gI 6 Log_.enc data_1) (.tup []) (([]:List Box).map some++gT data_1 (gB 6 Log_.enc r)):=by
 refine FnM.of_wHv ⟨Tryz.prog,58,[],[]⟩ rfl Tryz.func76 rfl rfl (lb_ rfl) (by kernel_rfl) ?_
 unfold cB at hF
 refine aj (aa (vI m_3) (aa (vI a_2) (aa (vI (w64 (m_3-a_2))) (aa (vI (w64 (m_3-a_2))) (af (aj (aa (vI b_4) (aa (vI m_3) (aa (vI (w64 (b_4-m_3))) (aa (vI (w64 (b_4-m_3))) (af (au ?_))))))))))))
 obtain ⟨o_14,hj_15,hF⟩:=bind_some hF
 obtain ⟨nq_27,hj_15⟩:=aP hj_15
 refine aU (λ(s_11:(List Log_)×Int×Int)=>[(0,(dV (ak 0) 6 s_11.1)),(2,(vI m_3)),(4,(.fn 33 [])),(10,(vI s_11.2.1))]) (λ(s_11:(List Log_)×Int×Int)=>[((ak 0),gB 6 Log_.enc s_11.1)]) (λ(k_6:Nat)=>(λ(s_11:(List Log_)×Int×Int)=>[(0,(dV (ak 0) 6 s_11.1)),(2,(vI m_3)),(4,(.fn 33 [])),(10,(vI s_11.2.1)),(11,(vI s_11.2.2))])) (λs=>iC m_3 s) o_14 nq_27 (data_1,(w64 (m_3-a_2)),(w64 (b_4-m_3))) hj_15 rfl (aC rfl) ?_ ?_
 ·rintro ⟨k_6,s_11⟩ hL_13
  dsimp only at hL_13
  cases k_6 with
  | zero=>cases hL_13
  | succ k_6 =>
   obtain ⟨c_,hc_12,hL_13⟩:=bind_some hL_13
   unfold iC at hc_12
   refine au (aj (aa (vI s_11.2.1) (aa (vI s_11.2.2) (aa (vB (s_11.2.1 != s_11.2.2)) (af ?_)))))
   rcases ah hc_12 with⟨hc_16,hc_12⟩|⟨hc_16,hc_12⟩
   ·refine aB rfl hc_16 (ay (aI (aj (aa (vI s_11.2.1) (aa (vI s_11.2.2) (aa (vB (decide (s_11.2.1>s_11.2.2))) (af ?_)))))))
    rcases ah hc_12 with⟨hc_17,hc_12⟩|⟨hc_17,hc_12⟩
    ·refine aB rfl hc_17 (aj (aa (dV (ak 0) 6 s_11.1) (aa (vI m_3) (aa (vI s_11.2.1) (aa (vI (w64 (m_3-s_11.2.1))) (aa (vI m_3) (aa (vI s_11.2.2) (aa (.fn 33 []) ?_))))))))
     obtain ⟨r_18,hr_19,hc_12⟩:=bind_some hc_12
     obtain ⟨_,hs_20,hc_12⟩:=bind_some hc_12
     replace hs_20:=bN hs_20
     refine bX 0 [] 0 0 il ft (gG hr_19) rfl Hm rfl rfl rfl (by kernel_rfl) rfl (.inr (.inl rfl)) rfl (by kernel_rfl) (by kernel_rfl) (by kernel_rfl) (by kernel_rfl) rfl (by decide) (by kernel_rfl) bM (jb hs_20) wz ([((ak 0),gB 6 Log_.enc r_18)]:Hp) (by kernel_rfl) (aF (v':=(dV (ak 0) 6 r_18)) 0 rfl (ax hs_20.symm) (aF (v':=(dV (ak 0) 6 r_18)) 24 rfl (ax hs_20.symm) (af (av (aa (vI s_11.2.1) (aa (vI s_11.2.2) (aa (vI (w64 (s_11.2.1-s_11.2.2))) (aa (vI (w64 (s_11.2.1-s_11.2.2))) (af ?_)))))))))
     obtain rfl:=ae hc_12
     exact aK (k_6,(r_18,(w64 (s_11.2.1-s_11.2.2)),s_11.2.2)) hL_13 (ls_ _) rfl (aC rfl)
    ·refine aA rfl hc_17 (aj (aa (dV (ak 0) 6 s_11.1) (aa (vI m_3) (aa (vI s_11.2.1) (aa (vI (w64 (m_3-s_11.2.1))) (aa (vI m_3) (aa (vI s_11.2.2) (aa (vI (w64 (m_3+s_11.2.2))) (aa (vI s_11.2.1) (aa (vI (w64 ((w64 (m_3+s_11.2.2))-s_11.2.1))) (aa (vI s_11.2.1) (aa (.fn 33 []) ?_))))))))))))
     obtain ⟨r_21,hr_22,hc_12⟩:=bind_some hc_12
     obtain ⟨_,hs_23,hc_12⟩:=bind_some hc_12
     replace hs_23:=bN hs_23
     refine bX 0 [] 0 0 il ft (gG hr_22) rfl Hm rfl rfl rfl (by kernel_rfl) rfl (.inr (.inl rfl)) rfl (by kernel_rfl) (by kernel_rfl) (by kernel_rfl) (by kernel_rfl) rfl (by decide) (by kernel_rfl) bM (jb hs_23) wz ([((ak 0),gB 6 Log_.enc r_21)]:Hp) (by kernel_rfl) (aF (v':=(dV (ak 0) 6 r_21)) 0 rfl (ax hs_23.symm) (aF (v':=(dV (ak 0) 6 r_21)) 35 rfl (ax hs_23.symm) (af (av (aa (vI s_11.2.2) (aa (vI s_11.2.1) (aa (vI (w64 (s_11.2.2-s_11.2.1))) (aa (vI (w64 (s_11.2.2-s_11.2.1))) (af ?_)))))))))
     obtain rfl:=ae hc_12
     exact aK (k_6,(r_21,s_11.2.1,(w64 (s_11.2.2-s_11.2.1)))) hL_13 (ls_ _) rfl (aC rfl)
   ·refine aA rfl hc_16 (aV ?_)
    obtain rfl:=ae hc_12
    obtain rfl:=ae hL_13
    exact aX ((s_11.1,s_11.2.1,s_11.2.2)) rfl rfl (aC rfl)
 ·rintro s_11 ho_ sl_ H_ hp_ hq_
  subst ho_
  refine aJ _ hp_ hq_ (av (aa (dV (ak 0) 6 s_11.1) (aa (vI m_3) (aa (vI s_11.2.1) (aa (vI (w64 (m_3-s_11.2.1))) (aa (vI m_3) (aa (vI s_11.2.1) (aa (.fn 33 []) ?_))))))))
  obtain ⟨r_24,hr_25,hF⟩:=bind_some hF
  obtain ⟨_,hs_26,hF⟩:=bind_some hF
  replace hs_26:=bN hs_26
  refine bX 0 [] 0 0 il ft (gG hr_25) rfl Hm rfl rfl rfl (by kernel_rfl) rfl (.inr (.inl rfl)) rfl (by kernel_rfl) (by kernel_rfl) (by kernel_rfl) (by kernel_rfl) rfl (by decide) (by kernel_rfl) bM (jb hs_26) wz ([((ak 0),gB 6 Log_.enc r_24)]:Hp) (by kernel_rfl) (aF (v':=(dV (ak 0) 6 r_24)) 0 rfl (ax hs_26.symm) (aF (v':=(dV (ak 0) 6 r_24)) 50 rfl (ax hs_26.symm) (af ?_)))
  show lJ _ _ _ _ _ _ _ _
  obtain rfl:=ae hF
  exact jO (bs:=([]:List Box)) (os:=([]:List Box)) (xs:=data_1) (o:=gB 6 Log_.enc r_24) (.inl rfl) [] trivial rfl rfl rfl rfl rfl (by kernel_rfl) bM rfl
end Go.Proofs.YtdpginbnipklcaaGreatDoor.Law

