/-
 The machine computes these plain functions (written by a program of ours).
-/
import Derived.Test.YtdpginbnipklcaaGreatDoorFacts
import Derived.Test.YtdpginbnipklcaaGreatDoorDefs
import Derived.Test.YtdpginbnipklcaaGreatDoorPf2
open Go Go.Eng Go.Proofs
namespace Go.Proofs.YtdpginbnipklcaaGreatDoor.Law
set_option maxRecDepth 100000
set_option linter.unusedVariables false
set_option maxHeartbeats 1000000
theorem jk {data_1:(List Log_)} {a_2:Int} {m_3:Int} {b_4:Int} {r:(List Log_)} (hF:dH data_1 a_2 m_3 b_4=some r) :
  FnM Tryz.prog 57 [(dV (ak 0) 6 data_1),(vI a_2),(vI m_3),(vI b_4),(.fn 28 [])] (([]:List Box)++gI 6 Log_.enc data_1) (.tup []) (([]:List Box).map some++gT data_1 (gB 6 Log_.enc r)):=by
 refine FnM.of_wHv ⟨Tryz.prog,220,[],[]⟩ rfl Tryz.func57 rfl rfl (lb_ rfl) (by kernel_rfl) ?_
 unfold dH at hF
 refine au (aj (aa (vI m_3) (aa (vI a_2) (aa (vI (w64 (m_3-a_2))) (aa (vB ((w64 (m_3-a_2))==1)) (af ?_))))))
 rcases ah hF with⟨hc_6,hF⟩|⟨hc_6,hF⟩
 ·refine aB rfl hc_6 (aj (aa (vI m_3) (aa (vI m_3) (af (aj (aa (vI b_4) (aa (vI b_4) (af (au ?_)))))))))
  obtain ⟨o_15,hj_16,hF⟩:=bind_some hF
  obtain ⟨nq_53,hj_16⟩:=aP hj_16
  refine aU (λ(s_12:Int×Int)=>[(0,(dV (ak 0) 6 data_1)),(1,(vI a_2)),(10,(vI s_12.1))]) (λ(s_12:Int×Int)=>[((ak 0),gB 6 Log_.enc data_1)]) (λ(k_7:Nat)=>(λ(s_12:Int×Int)=>[(0,(dV (ak 0) 6 data_1)),(1,(vI a_2)),(4,(.fn 28 [])),(10,(vI s_12.1)),(11,(vI s_12.2))])) (λs=>fu data_1 a_2 s) o_15 nq_53 (m_3,b_4) hj_16 rfl (aC rfl) ?_ ?_
  ·rintro ⟨k_7,s_12⟩ hL_14
   dsimp only at hL_14
   cases k_7 with
   | zero=>cases hL_14
   | succ k_7 =>
    obtain ⟨c_,hc_13,hL_14⟩:=bind_some hL_14
    unfold fu at hc_13
    refine au (aj (aa (vI s_12.1) (aa (vI s_12.2) (aa (vB (decide (s_12.1<s_12.2))) (af ?_)))))
    rcases ah hc_13 with⟨hc_17,hc_13⟩|⟨hc_17,hc_13⟩
    ·refine aB rfl hc_17 (ay (aI (aj (aa (vI s_12.1) (aa (vI s_12.2) (aa (vI (w64 (s_12.1+s_12.2))) (bB un3 ib rfl wz ?_)))))))
     obtain ⟨q_18,hz_19,hc_13⟩:=bind_some hc_13
     refine jI rfl rfl hz_19 wz (bB ib un3 rfl wz (aa (vI (w64 q_18)) (af (au (aQ (aa (.fn 28 []) (aa (dV (ak 0) 6 data_1) (aa (vI (w64 q_18)) ?_))))))))
     obtain ⟨_,hi_20,hc_13⟩:=bind_some hc_13
     refine aO bg rfl rfl (aW hi_20) (aM hi_20) wz ?_
     obtain ⟨e_21,hy_22,hc_13⟩:=bind_some hc_13
     refine aZ 4 0 (.inr (by kernel_rfl)) (λ_ _ ag=>trivial) bf bL rfl rfl hy_22 (.d (.agg (Log_.enc e_21))) rfl wz (aa (dV (ak 0) 6 data_1) (aa (vI a_2) ?_))
     obtain ⟨_,hi_23,hc_13⟩:=bind_some hc_13
     refine aO bg rfl rfl (aW hi_23) (aM hi_23) wz ?_
     obtain ⟨e_24,hy_25,hc_13⟩:=bind_some hc_13
     refine aZ 8 0 (.inr (by kernel_rfl)) (λ_ _ ag=>⟨.inl ⟨rfl,rfl⟩,trivial⟩) bf bL rfl rfl hy_25 (.d (.agg (Log_.enc e_24))) rfl wz ?_
     obtain ⟨r_26,hr_27,hc_13⟩:=bind_some hc_13
     refine aG (bC hr_27) rfl uU rfl rfl rfl rfl wz (aa (vB (decide (r_26<0))) (af ?_))
     rcases ah hc_13 with⟨hc_28,hc_13⟩|⟨hc_28,hc_13⟩
     ·refine aB rfl hc_28 (av (aa (vI (w64 q_18)) (aa (vI (w64 ((w64 q_18)+1))) (aa (vI (w64 ((w64 q_18)+1))) (af ?_)))))
      obtain rfl:=ae hc_13
      exact aK (k_7,((w64 ((w64 q_18)+1)),s_12.2)) hL_14 (ls_ _) rfl (aC rfl)
     ·refine aA rfl hc_28 (av (aa (vI (w64 q_18)) (aa (vI (w64 q_18)) (af ?_))))
      obtain rfl:=ae hc_13
      exact aK (k_7,(s_12.1,(w64 q_18))) hL_14 (ls_ _) rfl (aC rfl)
    ·refine aA rfl hc_17 (aV ?_)
     obtain rfl:=ae hc_13
     obtain rfl:=ae hL_14
     exact aX ((s_12.1,s_12.2)) rfl rfl (aC rfl)
  ·rintro s_12 ho_ sl_ H_ hp_ hq_
   subst ho_
   refine aJ _ hp_ hq_ (au (aj (aa (vI a_2) (aa (vI a_2) (af ?_)))))
   obtain ⟨o_37,hj_38,hF⟩:=bind_some hF
   obtain ⟨nq_52,hj_38⟩:=aP hj_38
   refine aU (λ(s_34:(List Log_)×Int)=>[]) (λ(s_34:(List Log_)×Int)=>[((ak 0),gB 6 Log_.enc s_34.1)]) (λ(k_29:Nat)=>(λ(s_34:(List Log_)×Int)=>[(0,(dV (ak 0) 6 s_34.1)),(10,(vI s_12.1)),(13,(vI s_34.2))])) (λs=>eQ s_12 s) o_37 nq_52 (data_1,a_2) hj_38 rfl (aC rfl) ?_ ?_
   ·rintro ⟨k_29,s_34⟩ hL_36
    dsimp only at hL_36
    cases k_29 with
    | zero=>cases hL_36
    | succ k_29 =>
     obtain ⟨c_,hc_35,hL_36⟩:=bind_some hL_36
     unfold eQ at hc_35
     refine au (aj (aa (vI s_34.2) (aa (vI s_12.1) (aa (vI (w64 (s_12.1-1))) (aa (vB (decide (s_34.2<(w64 (s_12.1-1))))) (af ?_))))))
     rcases ah hc_35 with⟨hc_39,hc_35⟩|⟨hc_39,hc_35⟩
     ·refine aB rfl hc_39 (ay (au (aI (aQ (aa (dV (ak 0) 6 s_34.1) (aa (vI s_34.2) (aa (dV (ak 0) 6 s_34.1) (aa (vI s_34.2) (aa (vI (w64 (s_34.2+1))) (aa (dV (ak 0) 6 s_34.1) (aa (vI s_34.2) (aa (vI (w64 (s_34.2+1))) ?_))))))))))))
      obtain ⟨_,hi_40,hc_35⟩:=bind_some hc_35
      refine aO bg rfl rfl (aW hi_40) (aM hi_40) wz ?_
      obtain ⟨e_41,hy_42,hc_35⟩:=bind_some hc_35
      refine aZ 9 0 (.inr (by kernel_rfl)) (λ_ _ ag=>trivial) bf bL rfl rfl hy_42 (.d (.agg (Log_.enc e_41))) rfl wz (aa (dV (ak 0) 6 s_34.1) (aa (vI s_34.2) ?_))
      obtain ⟨_,hi_43,hc_35⟩:=bind_some hc_35
      refine aO bg rfl rfl (aW hi_43) (aM hi_43) wz ?_
      obtain ⟨e_44,hy_45,hc_35⟩:=bind_some hc_35
      refine aZ 13 0 (.inr (by kernel_rfl)) (λ_ _ ag=>⟨.inl ⟨rfl,rfl⟩,trivial⟩) bf bL rfl rfl hy_45 (.d (.agg (Log_.enc e_44))) rfl wz ?_
      obtain ⟨_,hi_46,hc_35⟩:=bind_some hc_35
      refine aO bg rfl rfl (aW hi_46) (aM hi_46) wz ?_
      obtain ⟨e_47,hy_48,hc_35⟩:=bind_some hc_35
      refine cO 15 (.inr (by kernel_rfl)) (λ_ _ ag=>⟨.inr (.inr (by kernel_rfl)),⟨.inr (.inr (by kernel_rfl)),trivial⟩⟩) 0 bf rfl rfl hy_48 e_41 rfl wz (aF (v':=(dV (ak 0) 6 (s_34.1.set (0+(s_34.2).toNat) e_41))) 0 rfl (ax (by simp)) (aF (v':=(dV (ak 0) 6 (s_34.1.set (0+(s_34.2).toNat) e_41))) 61 rfl (ax (by simp)) (aF (v':=(dV (ak 0) 6 (s_34.1.set (0+(s_34.2).toNat) e_41))) 63 rfl (ax (by simp)) (aF (v':=(dV (ak 0) 6 (s_34.1.set (0+(s_34.2).toNat) e_41))) 66 rfl (ax (by simp)) (aF (v':=(dV (ak 0) 6 (s_34.1.set (0+(s_34.2).toNat) e_41))) 71 rfl (ax (by simp)) ?_)))))
      obtain ⟨_,hi_49,hc_35⟩:=bind_some hc_35
      refine aO bg rfl rfl (aW hi_49) (aM hi_49) wz ?_
      obtain ⟨e_50,hy_51,hc_35⟩:=bind_some hc_35
      refine cO 17 (.inr (by kernel_rfl)) (λ_ _ ag=>⟨.inr (.inr (by kernel_rfl)),⟨.inr (.inr (by kernel_rfl)),⟨.inr (.inr (by kernel_rfl)),trivial⟩⟩⟩) 0 bf rfl rfl hy_51 e_44 rfl wz (aF (v':=(dV (ak 0) 6 ((s_34.1.set (0+(s_34.2).toNat) e_41).set (0+((w64 (s_34.2+1))).toNat) e_44))) 0 rfl (ax (by simp)) (aF (v':=(dV (ak 0) 6 ((s_34.1.set (0+(s_34.2).toNat) e_41).set (0+((w64 (s_34.2+1))).toNat) e_44))) 61 rfl (ax (by simp)) (aF (v':=(dV (ak 0) 6 ((s_34.1.set (0+(s_34.2).toNat) e_41).set (0+((w64 (s_34.2+1))).toNat) e_44))) 63 rfl (ax (by simp)) (aF (v':=(dV (ak 0) 6 ((s_34.1.set (0+(s_34.2).toNat) e_41).set (0+((w64 (s_34.2+1))).toNat) e_44))) 66 rfl (ax (by simp)) (aF (v':=(dV (ak 0) 6 ((s_34.1.set (0+(s_34.2).toNat) e_41).set (0+((w64 (s_34.2+1))).toNat) e_44))) 71 rfl (ax (by simp)) (af (av (aa (vI s_34.2) (aa (vI (w64 (s_34.2+1))) (aa (vI (w64 (s_34.2+1))) (af ?_)))))))))))
      obtain rfl:=ae hc_35
      exact aK (k_29,(((s_34.1.set (0+(s_34.2).toNat) e_41).set (0+((w64 (s_34.2+1))).toNat) e_44),(w64 (s_34.2+1)))) hL_36 (ls_ _) rfl (aC rfl)
     ·refine aA rfl hc_39 (aV ?_)
      obtain rfl:=ae hc_35
      obtain rfl:=ae hL_36
      exact aX ((s_34.1,s_34.2)) rfl rfl (aC rfl)
   ·rintro s_34 ho_ sl_ H_ hp_ hq_
    subst ho_
    refine aJ _ hp_ hq_ ?_
    obtain rfl:=ae hF
    exact aN (jO (bs:=([]:List Box)) (os:=([]:List Box)) (xs:=data_1) (o:=gB 6 Log_.enc s_34.1) (.inr rfl) [] trivial rfl rfl rfl rfl rfl (by kernel_rfl) bM rfl)
 ·refine aA rfl hc_6 (ay (au (aj (aa (vI b_4) (aa (vI m_3) (aa (vI (w64 (b_4-m_3))) (aa (vB ((w64 (b_4-m_3))==1)) (af ?_))))))))
  rcases ah hF with⟨hc_54,hF⟩|⟨hc_54,hF⟩
  ·refine aB rfl hc_54 (aj (aa (vI a_2) (aa (vI a_2) (af (aj (aa (vI m_3) (aa (vI m_3) (af (au ?_)))))))))
   obtain ⟨o_63,hj_64,hF⟩:=bind_some hF
   obtain ⟨nq_101,hj_64⟩:=aP hj_64
   refine aU (λ(s_60:Int×Int)=>[(0,(dV (ak 0) 6 data_1)),(2,(vI m_3)),(14,(vI s_60.1))]) (λ(s_60:Int×Int)=>[((ak 0),gB 6 Log_.enc data_1)]) (λ(k_55:Nat)=>(λ(s_60:Int×Int)=>[(0,(dV (ak 0) 6 data_1)),(2,(vI m_3)),(4,(.fn 28 [])),(14,(vI s_60.1)),(15,(vI s_60.2))])) (λs=>eF m_3 data_1 s) o_63 nq_101 (a_2,m_3) hj_64 rfl (aC rfl) ?_ ?_
   ·rintro ⟨k_55,s_60⟩ hL_62
    dsimp only at hL_62
    cases k_55 with
    | zero=>cases hL_62
    | succ k_55 =>
     obtain ⟨c_,hc_61,hL_62⟩:=bind_some hL_62
     unfold eF at hc_61
     refine au (aj (aa (vI s_60.1) (aa (vI s_60.2) (aa (vB (decide (s_60.1<s_60.2))) (af ?_)))))
     rcases ah hc_61 with⟨hc_65,hc_61⟩|⟨hc_65,hc_61⟩
     ·refine aB rfl hc_65 (ay (aI (aj (aa (vI s_60.1) (aa (vI s_60.2) (aa (vI (w64 (s_60.1+s_60.2))) (bB un3 ib rfl wz ?_)))))))
      obtain ⟨q_66,hz_67,hc_61⟩:=bind_some hc_61
      refine jI rfl rfl hz_67 wz (bB ib un3 rfl wz (aa (vI (w64 q_66)) (af (au (aQ (aa (.fn 28 []) (aa (dV (ak 0) 6 data_1) (aa (vI m_3) ?_))))))))
      obtain ⟨_,hi_68,hc_61⟩:=bind_some hc_61
      refine aO bg rfl rfl (aW hi_68) (aM hi_68) wz ?_
      obtain ⟨e_69,hy_70,hc_61⟩:=bind_some hc_61
      refine aZ 4 0 (.inr (by kernel_rfl)) (λ_ _ ag=>trivial) bf bL rfl rfl hy_70 (.d (.agg (Log_.enc e_69))) rfl wz (aa (dV (ak 0) 6 data_1) (aa (vI (w64 q_66)) ?_))
      obtain ⟨_,hi_71,hc_61⟩:=bind_some hc_61
      refine aO bg rfl rfl (aW hi_71) (aM hi_71) wz ?_
      obtain ⟨e_72,hy_73,hc_61⟩:=bind_some hc_61
      refine aZ 8 0 (.inr (by kernel_rfl)) (λ_ _ ag=>⟨.inl ⟨rfl,rfl⟩,trivial⟩) bf bL rfl rfl hy_73 (.d (.agg (Log_.enc e_72))) rfl wz ?_
      obtain ⟨r_74,hr_75,hc_61⟩:=bind_some hc_61
      refine aG (bC hr_75) rfl uU rfl rfl rfl rfl wz (aa (vB (decide (r_74<0))) (aa (vB (!(decide (r_74<0)))) (af ?_)))
      rcases ah hc_61 with⟨hc_76,hc_61⟩|⟨hc_76,hc_61⟩
      ·refine aB rfl hc_76 (av (aa (vI (w64 q_66)) (aa (vI (w64 ((w64 q_66)+1))) (aa (vI (w64 ((w64 q_66)+1))) (af ?_)))))
       obtain rfl:=ae hc_61
       exact aK (k_55,((w64 ((w64 q_66)+1)),s_60.2)) hL_62 (ls_ _) rfl (aC rfl)
      ·refine aA rfl hc_76 (av (aa (vI (w64 q_66)) (aa (vI (w64 q_66)) (af ?_))))
       obtain rfl:=ae hc_61
       exact aK (k_55,(s_60.1,(w64 q_66))) hL_62 (ls_ _) rfl (aC rfl)
     ·refine aA rfl hc_65 (aV ?_)
      obtain rfl:=ae hc_61
      obtain rfl:=ae hL_62
      exact aX ((s_60.1,s_60.2)) rfl rfl (aC rfl)
   ·rintro s_60 ho_ sl_ H_ hp_ hq_
    subst ho_
    refine aJ _ hp_ hq_ (au (aj (aa (vI m_3) (aa (vI m_3) (af ?_)))))
    obtain ⟨o_85,hj_86,hF⟩:=bind_some hF
    obtain ⟨nq_100,hj_86⟩:=aP hj_86
    refine aU (λ(s_82:(List Log_)×Int)=>[]) (λ(s_82:(List Log_)×Int)=>[((ak 0),gB 6 Log_.enc s_82.1)]) (λ(k_77:Nat)=>(λ(s_82:(List Log_)×Int)=>[(0,(dV (ak 0) 6 s_82.1)),(14,(vI s_60.1)),(17,(vI s_82.2))])) (λs=>fD s_60 s) o_85 nq_100 (data_1,m_3) hj_86 rfl (aC rfl) ?_ ?_
    ·rintro ⟨k_77,s_82⟩ hL_84
     dsimp only at hL_84
     cases k_77 with
     | zero=>cases hL_84
     | succ k_77 =>
      obtain ⟨c_,hc_83,hL_84⟩:=bind_some hL_84
      unfold fD at hc_83
      refine au (aj (aa (vI s_82.2) (aa (vI s_60.1) (aa (vB (decide (s_82.2>s_60.1))) (af ?_)))))
      rcases ah hc_83 with⟨hc_87,hc_83⟩|⟨hc_87,hc_83⟩
      ·refine aB rfl hc_87 (ay (au (aI (aQ (aa (dV (ak 0) 6 s_82.1) (aa (vI s_82.2) (aa (dV (ak 0) 6 s_82.1) (aa (vI s_82.2) (aa (vI (w64 (s_82.2-1))) (aa (dV (ak 0) 6 s_82.1) (aa (vI s_82.2) (aa (vI (w64 (s_82.2-1))) ?_))))))))))))
       obtain ⟨_,hi_88,hc_83⟩:=bind_some hc_83
       refine aO bg rfl rfl (aW hi_88) (aM hi_88) wz ?_
       obtain ⟨e_89,hy_90,hc_83⟩:=bind_some hc_83
       refine aZ 9 0 (.inr (by kernel_rfl)) (λ_ _ ag=>trivial) bf bL rfl rfl hy_90 (.d (.agg (Log_.enc e_89))) rfl wz (aa (dV (ak 0) 6 s_82.1) (aa (vI s_82.2) ?_))
       obtain ⟨_,hi_91,hc_83⟩:=bind_some hc_83
       refine aO bg rfl rfl (aW hi_91) (aM hi_91) wz ?_
       obtain ⟨e_92,hy_93,hc_83⟩:=bind_some hc_83
       refine aZ 13 0 (.inr (by kernel_rfl)) (λ_ _ ag=>⟨.inl ⟨rfl,rfl⟩,trivial⟩) bf bL rfl rfl hy_93 (.d (.agg (Log_.enc e_92))) rfl wz ?_
       obtain ⟨_,hi_94,hc_83⟩:=bind_some hc_83
       refine aO bg rfl rfl (aW hi_94) (aM hi_94) wz ?_
       obtain ⟨e_95,hy_96,hc_83⟩:=bind_some hc_83
       refine cO 15 (.inr (by kernel_rfl)) (λ_ _ ag=>⟨.inr (.inr (by kernel_rfl)),⟨.inr (.inr (by kernel_rfl)),trivial⟩⟩) 0 bf rfl rfl hy_96 e_89 rfl wz (aF (v':=(dV (ak 0) 6 (s_82.1.set (0+(s_82.2).toNat) e_89))) 0 rfl (ax (by simp)) (aF (v':=(dV (ak 0) 6 (s_82.1.set (0+(s_82.2).toNat) e_89))) 113 rfl (ax (by simp)) (aF (v':=(dV (ak 0) 6 (s_82.1.set (0+(s_82.2).toNat) e_89))) 115 rfl (ax (by simp)) (aF (v':=(dV (ak 0) 6 (s_82.1.set (0+(s_82.2).toNat) e_89))) 118 rfl (ax (by simp)) (aF (v':=(dV (ak 0) 6 (s_82.1.set (0+(s_82.2).toNat) e_89))) 123 rfl (ax (by simp)) ?_)))))
       obtain ⟨_,hi_97,hc_83⟩:=bind_some hc_83
       refine aO bg rfl rfl (aW hi_97) (aM hi_97) wz ?_
       obtain ⟨e_98,hy_99,hc_83⟩:=bind_some hc_83
       refine cO 17 (.inr (by kernel_rfl)) (λ_ _ ag=>⟨.inr (.inr (by kernel_rfl)),⟨.inr (.inr (by kernel_rfl)),⟨.inr (.inr (by kernel_rfl)),trivial⟩⟩⟩) 0 bf rfl rfl hy_99 e_92 rfl wz (aF (v':=(dV (ak 0) 6 ((s_82.1.set (0+(s_82.2).toNat) e_89).set (0+((w64 (s_82.2-1))).toNat) e_92))) 0 rfl (ax (by simp)) (aF (v':=(dV (ak 0) 6 ((s_82.1.set (0+(s_82.2).toNat) e_89).set (0+((w64 (s_82.2-1))).toNat) e_92))) 113 rfl (ax (by simp)) (aF (v':=(dV (ak 0) 6 ((s_82.1.set (0+(s_82.2).toNat) e_89).set (0+((w64 (s_82.2-1))).toNat) e_92))) 115 rfl (ax (by simp)) (aF (v':=(dV (ak 0) 6 ((s_82.1.set (0+(s_82.2).toNat) e_89).set (0+((w64 (s_82.2-1))).toNat) e_92))) 118 rfl (ax (by simp)) (aF (v':=(dV (ak 0) 6 ((s_82.1.set (0+(s_82.2).toNat) e_89).set (0+((w64 (s_82.2-1))).toNat) e_92))) 123 rfl (ax (by simp)) (af (av (aa (vI s_82.2) (aa (vI (w64 (s_82.2-1))) (aa (vI (w64 (s_82.2-1))) (af ?_)))))))))))
       obtain rfl:=ae hc_83
       exact aK (k_77,(((s_82.1.set (0+(s_82.2).toNat) e_89).set (0+((w64 (s_82.2-1))).toNat) e_92),(w64 (s_82.2-1)))) hL_84 (ls_ _) rfl (aC rfl)
      ·refine aA rfl hc_87 (aV ?_)
       obtain rfl:=ae hc_83
       obtain rfl:=ae hL_84
       exact aX ((s_82.1,s_82.2)) rfl rfl (aC rfl)
    ·rintro s_82 ho_ sl_ H_ hp_ hq_
     subst ho_
     refine aJ _ hp_ hq_ ?_
     obtain rfl:=ae hF
     exact aN (jO (bs:=([]:List Box)) (os:=([]:List Box)) (xs:=data_1) (o:=gB 6 Log_.enc s_82.1) (.inr rfl) [] trivial rfl rfl rfl rfl rfl (by kernel_rfl) bM rfl)
  ·refine aA rfl hc_54 (ay (aj (aa (vI a_2) (aa (vI b_4) (aa (vI (w64 (a_2+b_4))) (bB un3 ib rfl wz ?_))))))
   obtain ⟨q_102,hz_103,hF⟩:=bind_some hF
   refine jI rfl rfl hz_103 wz (bB ib un3 rfl wz (aa (vI (w64 q_102)) (af (aj (aa (vI (w64 q_102)) (aa (vI m_3) (aa (vI (w64 ((w64 q_102)+m_3))) (aa (vI (w64 ((w64 q_102)+m_3))) (af (aj (aa (vI 0) (aa (vI 0) (af (au (aj (aa (vI m_3) (aa (vI (w64 q_102)) (aa (vB (decide (m_3>(w64 q_102)))) (af ?_)))))))))))))))))))
   obtain ⟨v_104,h_105,hF⟩:=bind_some hF
   refine aH [(0,(dV (ak 0) 6 data_1)),(1,(vI a_2)),(2,(vI m_3)),(3,(vI b_4)),(4,(.fn 28 [])),(18,(vI (w64 q_102))),(19,(vI (w64 ((w64 q_102)+m_3)))),(20,(vI v_104.1)),(21,(vI v_104.2))] [((ak 0),gB 6 Log_.enc data_1)] ?_ ?_
   ·rcases ah h_105 with⟨hc_106,h_105⟩|⟨hc_106,h_105⟩
    ·refine aB rfl hc_106 (aj (aa (vI (w64 ((w64 q_102)+m_3))) (aa (vI b_4) (aa (vI (w64 ((w64 ((w64 q_102)+m_3))-b_4))) (aa (vI (w64 ((w64 ((w64 q_102)+m_3))-b_4))) (af (av (aa (vI (w64 q_102)) (aa (vI (w64 q_102)) (af ?_))))))))))
     obtain rfl:=ae h_105
     exact cu
    ·refine aA rfl hc_106 (aj (aa (vI a_2) (aa (vI a_2) (af (av (aa (vI m_3) (aa (vI m_3) (af ?_))))))))
     obtain rfl:=ae h_105
     exact cu
   ·rintro ⟨⟩ _ sl_ H_ hp_ hq_
    refine aJ _ hp_ hq_ (aj (aa (vI (w64 ((w64 q_102)+m_3))) (aa (vI (w64 ((w64 ((w64 q_102)+m_3))-1))) (aa (vI (w64 ((w64 ((w64 q_102)+m_3))-1))) (af (au ?_))))))
    obtain ⟨o_115,hj_116,hF⟩:=bind_some hF
    obtain ⟨nq_154,hj_116⟩:=aP hj_116
    refine aU (λ(s_112:Int×Int)=>[(0,(dV (ak 0) 6 data_1)),(1,(vI a_2)),(2,(vI m_3)),(3,(vI b_4)),(4,(.fn 28 [])),(18,(vI (w64 q_102))),(19,(vI (w64 ((w64 q_102)+m_3)))),(20,(vI s_112.1))]) (λ(s_112:Int×Int)=>[((ak 0),gB 6 Log_.enc data_1)]) (λ(k_107:Nat)=>(λ(s_112:Int×Int)=>[(0,(dV (ak 0) 6 data_1)),(1,(vI a_2)),(2,(vI m_3)),(3,(vI b_4)),(4,(.fn 28 [])),(18,(vI (w64 q_102))),(19,(vI (w64 ((w64 q_102)+m_3)))),(20,(vI s_112.1)),(21,(vI s_112.2)),(22,(vI (w64 ((w64 ((w64 q_102)+m_3))-1))))])) (λs=>fF q_102 m_3 data_1 s) o_115 nq_154 (v_104.1,v_104.2) hj_116 rfl (aC rfl) ?_ ?_
    ·rintro ⟨k_107,s_112⟩ hL_114
     dsimp only at hL_114
     cases k_107 with
     | zero=>cases hL_114
     | succ k_107 =>
      obtain ⟨c_,hc_113,hL_114⟩:=bind_some hL_114
      unfold fF at hc_113
      refine au (aj (aa (vI s_112.1) (aa (vI s_112.2) (aa (vB (decide (s_112.1<s_112.2))) (af ?_)))))
      rcases ah hc_113 with⟨hc_117,hc_113⟩|⟨hc_117,hc_113⟩
      ·refine aB rfl hc_117 (ay (aI (aj (aa (vI s_112.1) (aa (vI s_112.2) (aa (vI (w64 (s_112.1+s_112.2))) (bB un3 ib rfl wz ?_)))))))
       obtain ⟨q_118,hz_119,hc_113⟩:=bind_some hc_113
       refine jI rfl rfl hz_119 wz (bB ib un3 rfl wz (aa (vI (w64 q_118)) (af (au (aQ (aa (.fn 28 []) (aa (dV (ak 0) 6 data_1) (aa (vI (w64 ((w64 ((w64 q_102)+m_3))-1))) (aa (vI (w64 q_118)) (aa (vI (w64 ((w64 ((w64 ((w64 q_102)+m_3))-1))-(w64 q_118)))) ?_))))))))))
       obtain ⟨_,hi_120,hc_113⟩:=bind_some hc_113
       refine aO bg rfl rfl (aW hi_120) (aM hi_120) wz ?_
       obtain ⟨e_121,hy_122,hc_113⟩:=bind_some hc_113
       refine aZ 6 0 (.inr (by kernel_rfl)) (λ_ _ ag=>trivial) bf bL rfl rfl hy_122 (.d (.agg (Log_.enc e_121))) rfl wz (aa (dV (ak 0) 6 data_1) (aa (vI (w64 q_118)) ?_))
       obtain ⟨_,hi_123,hc_113⟩:=bind_some hc_113
       refine aO bg rfl rfl (aW hi_123) (aM hi_123) wz ?_
       obtain ⟨e_124,hy_125,hc_113⟩:=bind_some hc_113
       refine aZ 10 0 (.inr (by kernel_rfl)) (λ_ _ ag=>⟨.inl ⟨rfl,rfl⟩,trivial⟩) bf bL rfl rfl hy_125 (.d (.agg (Log_.enc e_124))) rfl wz ?_
       obtain ⟨r_126,hr_127,hc_113⟩:=bind_some hc_113
       refine aG (bC hr_127) rfl uU rfl rfl rfl rfl wz (aa (vB (decide (r_126<0))) (aa (vB (!(decide (r_126<0)))) (af ?_)))
       rcases ah hc_113 with⟨hc_128,hc_113⟩|⟨hc_128,hc_113⟩
       ·refine aB rfl hc_128 (av (aa (vI (w64 q_118)) (aa (vI (w64 ((w64 q_118)+1))) (aa (vI (w64 ((w64 q_118)+1))) (af ?_)))))
        obtain rfl:=ae hc_113
        exact aK (k_107,((w64 ((w64 q_118)+1)),s_112.2)) hL_114 (ls_ _) rfl (aC rfl)
       ·refine aA rfl hc_128 (av (aa (vI (w64 q_118)) (aa (vI (w64 q_118)) (af ?_))))
        obtain rfl:=ae hc_113
        exact aK (k_107,(s_112.1,(w64 q_118))) hL_114 (ls_ _) rfl (aC rfl)
      ·refine aA rfl hc_117 (aV ?_)
       obtain rfl:=ae hc_113
       obtain rfl:=ae hL_114
       exact aX ((s_112.1,s_112.2)) rfl rfl (aC rfl)
    ·rintro s_112 ho_ sl_ H_ hp_ hq_
     subst ho_
     refine aJ _ hp_ hq_ (aj (aa (vI (w64 ((w64 q_102)+m_3))) (aa (vI s_112.1) (aa (vI (w64 ((w64 ((w64 q_102)+m_3))-s_112.1))) (aa (vI (w64 ((w64 ((w64 q_102)+m_3))-s_112.1))) (af (au (au ?_))))))))
     obtain ⟨v_129,h_130,hF⟩:=bind_some hF
     refine aH [(0,(dV (ak 0) 6 data_1)),(1,(vI a_2)),(2,(vI m_3)),(3,(vI b_4)),(4,(.fn 28 [])),(18,(vI (w64 q_102))),(20,(vI s_112.1)),(24,(vI (w64 ((w64 ((w64 q_102)+m_3))-s_112.1)))),(185,(vB v_129))] [((ak 0),gB 6 Log_.enc data_1)] ?_ ?_
     ·refine av (aa (vI s_112.1) (aa (vI m_3) (aa (vB (decide (s_112.1<m_3))) ?_)))
      rcases ah h_130 with⟨hc_131,h_130⟩|⟨hc_131,h_130⟩
      ·refine aD rfl hc_131 wz (aL (vI m_3) wa rfl (aL (vI (w64 ((w64 ((w64 q_102)+m_3))-s_112.1))) wa rfl (aL (vB (decide (m_3<(w64 ((w64 ((w64 q_102)+m_3))-s_112.1))))) wa rfl (aa (vB (decide (m_3<(w64 ((w64 ((w64 q_102)+m_3))-s_112.1))))) (af ?_)))))
       obtain rfl:=ae h_130
       exact cu
      ·refine aD rfl hc_131 wz (ai (ai (ai (aa (vB false) (af ?_)))))
       obtain rfl:=ae h_130
       exact cu
     ·rintro ⟨⟩ _ sl_ H_ hp_ hq_
      refine aJ _ hp_ hq_ ?_
      obtain ⟨v_132,h_133,hF⟩:=bind_some hF
      refine aH [(0,(dV (ak 0) 6 v_132)),(1,(vI a_2)),(3,(vI b_4)),(4,(.fn 28 [])),(18,(vI (w64 q_102))),(20,(vI s_112.1)),(24,(vI (w64 ((w64 ((w64 q_102)+m_3))-s_112.1))))] [((ak 0),gB 6 Log_.enc v_132)] ?_ ?_
      ·rcases ah h_133 with⟨hc_134,h_133⟩|⟨hc_134,h_133⟩
       ·refine aB rfl hc_134 (av (aa (dV (ak 0) 6 data_1) (aa (vI s_112.1) (aa (vI m_3) (aa (vI (w64 ((w64 ((w64 q_102)+m_3))-s_112.1))) (aa (.fn 28 []) ?_))))))
        obtain ⟨r_135,hr_136,h_133⟩:=bind_some h_133
        obtain ⟨_,hs_137,h_133⟩:=bind_some h_133
        replace hs_137:=bN hs_137
        refine bX 0 [] 0 0 il ft (dP hr_136) rfl Eg rfl rfl rfl (by kernel_rfl) rfl (.inr (.inl rfl)) rfl (by kernel_rfl) (by kernel_rfl) (by kernel_rfl) (by kernel_rfl) rfl (by decide) (by kernel_rfl) bM (jb hs_137) wz ([((ak 0),gB 6 Log_.enc r_135)]:Hp) (by kernel_rfl) (aF (v':=(dV (ak 0) 6 r_135)) 0 rfl (ax hs_137.symm) (aF (v':=(dV (ak 0) 6 r_135)) 186 rfl (ax hs_137.symm) (af ?_)))
        obtain rfl:=ae h_133
        exact cu
       ·refine aA rfl hc_134 (ay ?_)
        obtain rfl:=ae h_133
        exact cu
      ·rintro ⟨⟩ _ sl_ H_ hp_ hq_
       refine aJ _ hp_ hq_ (au (au ?_))
       obtain ⟨v_138,h_139,hF⟩:=bind_some hF
       refine aH [(0,(dV (ak 0) 6 v_132)),(1,(vI a_2)),(3,(vI b_4)),(4,(.fn 28 [])),(18,(vI (w64 q_102))),(20,(vI s_112.1)),(24,(vI (w64 ((w64 ((w64 q_102)+m_3))-s_112.1)))),(199,(vB v_138))] [((ak 0),gB 6 Log_.enc v_132)] ?_ ?_
       ·refine av (aa (vI a_2) (aa (vI s_112.1) (aa (vB (decide (a_2<s_112.1))) ?_)))
        rcases ah h_139 with⟨hc_140,h_139⟩|⟨hc_140,h_139⟩
        ·refine aD rfl hc_140 wz (aL (vI s_112.1) wa rfl (aL (vI (w64 q_102)) wa rfl (aL (vB (decide (s_112.1<(w64 q_102)))) wa rfl (aa (vB (decide (s_112.1<(w64 q_102)))) (af ?_)))))
         obtain rfl:=ae h_139
         exact cu
        ·refine aD rfl hc_140 wz (ai (ai (ai (aa (vB false) (af ?_)))))
         obtain rfl:=ae h_139
         exact cu
       ·rintro ⟨⟩ _ sl_ H_ hp_ hq_
        refine aJ _ hp_ hq_ ?_
        obtain ⟨v_141,h_142,hF⟩:=bind_some hF
        refine aH [(0,(dV (ak 0) 6 v_141)),(3,(vI b_4)),(4,(.fn 28 [])),(18,(vI (w64 q_102))),(24,(vI (w64 ((w64 ((w64 q_102)+m_3))-s_112.1))))] [((ak 0),gB 6 Log_.enc v_141)] ?_ ?_
        ·rcases ah h_142 with⟨hc_143,h_142⟩|⟨hc_143,h_142⟩
         ·refine aB rfl hc_143 (av (aa (dV (ak 0) 6 v_132) (aa (vI a_2) (aa (vI s_112.1) (aa (vI (w64 q_102)) (aa (.fn 28 []) ?_))))))
          obtain ⟨r_144,hr_145,h_142⟩:=bind_some h_142
          obtain ⟨_,hs_146,h_142⟩:=bind_some h_142
          replace hs_146:=bN hs_146
          refine bX 0 [] 0 0 il ft (jo hr_145) rfl uC rfl rfl rfl (by kernel_rfl) rfl (.inr (.inl rfl)) rfl (by kernel_rfl) (by kernel_rfl) (by kernel_rfl) (by kernel_rfl) rfl (by decide) (by kernel_rfl) bM (jb hs_146) wz ([((ak 0),gB 6 Log_.enc r_144)]:Hp) (by kernel_rfl) (aF (v':=(dV (ak 0) 6 r_144)) 0 rfl (ax hs_146.symm) (aF (v':=(dV (ak 0) 6 r_144)) 200 rfl (ax hs_146.symm) (af ?_)))
          obtain rfl:=ae h_142
          exact cu
         ·refine aA rfl hc_143 (ay ?_)
          obtain rfl:=ae h_142
          exact cu
        ·rintro ⟨⟩ _ sl_ H_ hp_ hq_
         refine aJ _ hp_ hq_ (au ?_)
         obtain ⟨v_147,h_148,hF⟩:=bind_some hF
         refine aH [(0,(dV (ak 0) 6 v_141)),(3,(vI b_4)),(4,(.fn 28 [])),(18,(vI (w64 q_102))),(24,(vI (w64 ((w64 ((w64 q_102)+m_3))-s_112.1)))),(213,(vB v_147))] [((ak 0),gB 6 Log_.enc v_141)] ?_ ?_
         ·refine av (aa (vI (w64 q_102)) (aa (vI (w64 ((w64 ((w64 q_102)+m_3))-s_112.1))) (aa (vB (decide ((w64 q_102)<(w64 ((w64 ((w64 q_102)+m_3))-s_112.1))))) ?_)))
          rcases ah h_148 with⟨hc_149,h_148⟩|⟨hc_149,h_148⟩
          ·refine aD rfl hc_149 wz (aL (vI (w64 ((w64 ((w64 q_102)+m_3))-s_112.1))) wa rfl (aL (vI b_4) wa rfl (aL (vB (decide ((w64 ((w64 ((w64 q_102)+m_3))-s_112.1))<b_4))) wa rfl (aa (vB (decide ((w64 ((w64 ((w64 q_102)+m_3))-s_112.1))<b_4))) (af ?_)))))
           obtain rfl:=ae h_148
           exact cu
          ·refine aD rfl hc_149 wz (ai (ai (ai (aa (vB false) (af ?_)))))
           obtain rfl:=ae h_148
           exact cu
         ·rintro ⟨⟩ _ sl_ H_ hp_ hq_
          refine aJ _ hp_ hq_ ?_
          rcases ah hF with⟨hc_150,hF⟩|⟨hc_150,hF⟩
          ·refine aB rfl hc_150 (av (aa (dV (ak 0) 6 v_141) (aa (vI (w64 q_102)) (aa (vI (w64 ((w64 ((w64 q_102)+m_3))-s_112.1))) (aa (vI b_4) (aa (.fn 28 []) ?_))))))
           obtain ⟨r_151,hr_152,hF⟩:=bind_some hF
           obtain ⟨_,hs_153,hF⟩:=bind_some hF
           replace hs_153:=bN hs_153
           refine bX 0 [] 0 0 il ft (jo hr_152) rfl uC rfl rfl rfl (by kernel_rfl) rfl (.inr (.inl rfl)) rfl (by kernel_rfl) (by kernel_rfl) (by kernel_rfl) (by kernel_rfl) rfl (by decide) (by kernel_rfl) bM (jb hs_153) wz ([((ak 0),gB 6 Log_.enc r_151)]:Hp) (by kernel_rfl) (aF (v':=(dV (ak 0) 6 r_151)) 0 rfl (ax hs_153.symm) (aF (v':=(dV (ak 0) 6 r_151)) 214 rfl (ax hs_153.symm) (af ?_)))
           show lJ _ _ _ _ _ _ _ _
           obtain rfl:=ae hF
           exact jO (bs:=([]:List Box)) (os:=([]:List Box)) (xs:=data_1) (o:=gB 6 Log_.enc r_151) (.inl rfl) [] trivial rfl rfl rfl rfl rfl (by kernel_rfl) bM rfl
          ·refine aA rfl hc_150 (ay ?_)
           show lJ _ _ _ _ _ _ _ _
           obtain rfl:=ae hF
           exact jO (bs:=([]:List Box)) (os:=([]:List Box)) (xs:=data_1) (o:=gB 6 Log_.enc v_141) (.inl rfl) [] trivial rfl rfl rfl rfl rfl (by kernel_rfl) bM rfl
theorem jM {data_1:(List Log_)} {a_2:Int} {m_3:Int} {b_4:Int} {r:(List Log_)} (hF:dZ data_1 a_2 m_3 b_4=some r) :
  FnM Tryz.prog 57 [(dV (ak 0) 6 data_1),(vI a_2),(vI m_3),(vI b_4),(.fn 28 [])] (([]:List Box)++gI 6 Log_.enc data_1) (.tup []) (([]:List Box).map some++gT data_1 (gB 6 Log_.enc r)):=by
 refine FnM.of_wHv ⟨Tryz.prog,220,[],[]⟩ rfl Tryz.func57 rfl rfl (lb_ rfl) (by kernel_rfl) ?_
 unfold dZ at hF
 refine au (aj (aa (vI m_3) (aa (vI a_2) (aa (vI (w64 (m_3-a_2))) (aa (vB ((w64 (m_3-a_2))==1)) (af ?_))))))
 rcases ah hF with⟨hc_6,hF⟩|⟨hc_6,hF⟩
 ·refine aB rfl hc_6 (aj (aa (vI m_3) (aa (vI m_3) (af (aj (aa (vI b_4) (aa (vI b_4) (af (au ?_)))))))))
  obtain ⟨o_15,hj_16,hF⟩:=bind_some hF
  obtain ⟨nq_53,hj_16⟩:=aP hj_16
  refine aU (λ(s_12:Int×Int)=>[(0,(dV (ak 0) 6 data_1)),(1,(vI a_2)),(10,(vI s_12.1))]) (λ(s_12:Int×Int)=>[((ak 0),gB 6 Log_.enc data_1)]) (λ(k_7:Nat)=>(λ(s_12:Int×Int)=>[(0,(dV (ak 0) 6 data_1)),(1,(vI a_2)),(4,(.fn 28 [])),(10,(vI s_12.1)),(11,(vI s_12.2))])) (λs=>ig data_1 a_2 s) o_15 nq_53 (m_3,b_4) hj_16 rfl (aC rfl) ?_ ?_
  ·rintro ⟨k_7,s_12⟩ hL_14
   dsimp only at hL_14
   cases k_7 with
   | zero=>cases hL_14
   | succ k_7 =>
    obtain ⟨c_,hc_13,hL_14⟩:=bind_some hL_14
    unfold ig at hc_13
    refine au (aj (aa (vI s_12.1) (aa (vI s_12.2) (aa (vB (decide (s_12.1<s_12.2))) (af ?_)))))
    rcases ah hc_13 with⟨hc_17,hc_13⟩|⟨hc_17,hc_13⟩
    ·refine aB rfl hc_17 (ay (aI (aj (aa (vI s_12.1) (aa (vI s_12.2) (aa (vI (w64 (s_12.1+s_12.2))) (bB un3 ib rfl wz ?_)))))))
     obtain ⟨q_18,hz_19,hc_13⟩:=bind_some hc_13
     refine jI rfl rfl hz_19 wz (bB ib un3 rfl wz (aa (vI (w64 q_18)) (af (au (aQ (aa (.fn 28 []) (aa (dV (ak 0) 6 data_1) (aa (vI (w64 q_18)) ?_))))))))
     obtain ⟨_,hi_20,hc_13⟩:=bind_some hc_13
     refine aO bg rfl rfl (aW hi_20) (aM hi_20) wz ?_
     obtain ⟨e_21,hy_22,hc_13⟩:=bind_some hc_13
     refine aZ 4 0 (.inr (by kernel_rfl)) (λ_ _ ag=>trivial) bf bL rfl rfl hy_22 (.d (.agg (Log_.enc e_21))) rfl wz (aa (dV (ak 0) 6 data_1) (aa (vI a_2) ?_))
     obtain ⟨_,hi_23,hc_13⟩:=bind_some hc_13
     refine aO bg rfl rfl (aW hi_23) (aM hi_23) wz ?_
     obtain ⟨e_24,hy_25,hc_13⟩:=bind_some hc_13
     refine aZ 8 0 (.inr (by kernel_rfl)) (λ_ _ ag=>⟨.inl ⟨rfl,rfl⟩,trivial⟩) bf bL rfl rfl hy_25 (.d (.agg (Log_.enc e_24))) rfl wz ?_
     obtain ⟨r_26,hr_27,hc_13⟩:=bind_some hc_13
     refine aG (bC hr_27) rfl uU rfl rfl rfl rfl wz (aa (vB (decide (r_26<0))) (af ?_))
     rcases ah hc_13 with⟨hc_28,hc_13⟩|⟨hc_28,hc_13⟩
     ·refine aB rfl hc_28 (av (aa (vI (w64 q_18)) (aa (vI (w64 ((w64 q_18)+1))) (aa (vI (w64 ((w64 q_18)+1))) (af ?_)))))
      obtain rfl:=ae hc_13
      exact aK (k_7,((w64 ((w64 q_18)+1)),s_12.2)) hL_14 (ls_ _) rfl (aC rfl)
     ·refine aA rfl hc_28 (av (aa (vI (w64 q_18)) (aa (vI (w64 q_18)) (af ?_))))
      obtain rfl:=ae hc_13
      exact aK (k_7,(s_12.1,(w64 q_18))) hL_14 (ls_ _) rfl (aC rfl)
    ·refine aA rfl hc_17 (aV ?_)
     obtain rfl:=ae hc_13
     obtain rfl:=ae hL_14
     exact aX ((s_12.1,s_12.2)) rfl rfl (aC rfl)
  ·rintro s_12 ho_ sl_ H_ hp_ hq_
   subst ho_
   refine aJ _ hp_ hq_ (au (aj (aa (vI a_2) (aa (vI a_2) (af ?_)))))
   obtain ⟨o_37,hj_38,hF⟩:=bind_some hF
   obtain ⟨nq_52,hj_38⟩:=aP hj_38
   refine aU (λ(s_34:(List Log_)×Int)=>[]) (λ(s_34:(List Log_)×Int)=>[((ak 0),gB 6 Log_.enc s_34.1)]) (λ(k_29:Nat)=>(λ(s_34:(List Log_)×Int)=>[(0,(dV (ak 0) 6 s_34.1)),(10,(vI s_12.1)),(13,(vI s_34.2))])) (λs=>ic s_12 s) o_37 nq_52 (data_1,a_2) hj_38 rfl (aC rfl) ?_ ?_
   ·rintro ⟨k_29,s_34⟩ hL_36
    dsimp only at hL_36
    cases k_29 with
    | zero=>cases hL_36
    | succ k_29 =>
     obtain ⟨c_,hc_35,hL_36⟩:=bind_some hL_36
     unfold ic at hc_35
     refine au (aj (aa (vI s_34.2) (aa (vI s_12.1) (aa (vI (w64 (s_12.1-1))) (aa (vB (decide (s_34.2<(w64 (s_12.1-1))))) (af ?_))))))
     rcases ah hc_35 with⟨hc_39,hc_35⟩|⟨hc_39,hc_35⟩
     ·refine aB rfl hc_39 (ay (au (aI (aQ (aa (dV (ak 0) 6 s_34.1) (aa (vI s_34.2) (aa (dV (ak 0) 6 s_34.1) (aa (vI s_34.2) (aa (vI (w64 (s_34.2+1))) (aa (dV (ak 0) 6 s_34.1) (aa (vI s_34.2) (aa (vI (w64 (s_34.2+1))) ?_))))))))))))
      obtain ⟨_,hi_40,hc_35⟩:=bind_some hc_35
      refine aO bg rfl rfl (aW hi_40) (aM hi_40) wz ?_
      obtain ⟨e_41,hy_42,hc_35⟩:=bind_some hc_35
      refine aZ 9 0 (.inr (by kernel_rfl)) (λ_ _ ag=>trivial) bf bL rfl rfl hy_42 (.d (.agg (Log_.enc e_41))) rfl wz (aa (dV (ak 0) 6 s_34.1) (aa (vI s_34.2) ?_))
      obtain ⟨_,hi_43,hc_35⟩:=bind_some hc_35
      refine aO bg rfl rfl (aW hi_43) (aM hi_43) wz ?_
      obtain ⟨e_44,hy_45,hc_35⟩:=bind_some hc_35
      refine aZ 13 0 (.inr (by kernel_rfl)) (λ_ _ ag=>⟨.inl ⟨rfl,rfl⟩,trivial⟩) bf bL rfl rfl hy_45 (.d (.agg (Log_.enc e_44))) rfl wz ?_
      obtain ⟨_,hi_46,hc_35⟩:=bind_some hc_35
      refine aO bg rfl rfl (aW hi_46) (aM hi_46) wz ?_
      obtain ⟨e_47,hy_48,hc_35⟩:=bind_some hc_35
      refine cO 15 (.inr (by kernel_rfl)) (λ_ _ ag=>⟨.inr (.inr (by kernel_rfl)),⟨.inr (.inr (by kernel_rfl)),trivial⟩⟩) 0 bf rfl rfl hy_48 e_41 rfl wz (aF (v':=(dV (ak 0) 6 (s_34.1.set (0+(s_34.2).toNat) e_41))) 0 rfl (ax (by simp)) (aF (v':=(dV (ak 0) 6 (s_34.1.set (0+(s_34.2).toNat) e_41))) 61 rfl (ax (by simp)) (aF (v':=(dV (ak 0) 6 (s_34.1.set (0+(s_34.2).toNat) e_41))) 63 rfl (ax (by simp)) (aF (v':=(dV (ak 0) 6 (s_34.1.set (0+(s_34.2).toNat) e_41))) 66 rfl (ax (by simp)) (aF (v':=(dV (ak 0) 6 (s_34.1.set (0+(s_34.2).toNat) e_41))) 71 rfl (ax (by simp)) ?_)))))
      obtain ⟨_,hi_49,hc_35⟩:=bind_some hc_35
      refine aO bg rfl rfl (aW hi_49) (aM hi_49) wz ?_
      obtain ⟨e_50,hy_51,hc_35⟩:=bind_some hc_35
      refine cO 17 (.inr (by kernel_rfl)) (λ_ _ ag=>⟨.inr (.inr (by kernel_rfl)),⟨.inr (.inr (by kernel_rfl)),⟨.inr (.inr (by kernel_rfl)),trivial⟩⟩⟩) 0 bf rfl rfl hy_51 e_44 rfl wz (aF (v':=(dV (ak 0) 6 ((s_34.1.set (0+(s_34.2).toNat) e_41).set (0+((w64 (s_34.2+1))).toNat) e_44))) 0 rfl (ax (by simp)) (aF (v':=(dV (ak 0) 6 ((s_34.1.set (0+(s_34.2).toNat) e_41).set (0+((w64 (s_34.2+1))).toNat) e_44))) 61 rfl (ax (by simp)) (aF (v':=(dV (ak 0) 6 ((s_34.1.set (0+(s_34.2).toNat) e_41).set (0+((w64 (s_34.2+1))).toNat) e_44))) 63 rfl (ax (by simp)) (aF (v':=(dV (ak 0) 6 ((s_34.1.set (0+(s_34.2).toNat) e_41).set (0+((w64 (s_34.2+1))).toNat) e_44))) 66 rfl (ax (by simp)) (aF (v':=(dV (ak 0) 6 ((s_34.1.set (0+(s_34.2).toNat) e_41).set (0+((w64 (s_34.2+1))).toNat) e_44))) 71 rfl (ax (by simp)) (af (av (aa (vI s_34.2) (aa (vI (w64 (s_34.2+1))) (aa (vI (w64 (s_34.2+1))) (af ?_)))))))))))
      obtain rfl:=ae hc_35
      exact aK (k_29,(((s_34.1.set (0+(s_34.2).toNat) e_41).set (0+((w64 (s_34.2+1))).toNat) e_44),(w64 (s_34.2+1)))) hL_36 (ls_ _) rfl (aC rfl)
     ·refine aA rfl hc_39 (aV ?_)
      obtain rfl:=ae hc_35
      obtain rfl:=ae hL_36
      exact aX ((s_34.1,s_34.2)) rfl rfl (aC rfl)
   ·rintro s_34 ho_ sl_ H_ hp_ hq_
    subst ho_
    refine aJ _ hp_ hq_ ?_
    obtain rfl:=ae hF
    exact aN (jO (bs:=([]:List Box)) (os:=([]:List Box)) (xs:=data_1) (o:=gB 6 Log_.enc s_34.1) (.inr rfl) [] trivial rfl rfl rfl rfl rfl (by kernel_rfl) bM rfl)
 ·refine aA rfl hc_6 (ay (au (aj (aa (vI b_4) (aa (vI m_3) (aa (vI (w64 (b_4-m_3))) (aa (vB ((w64 (b_4-m_3))==1)) (af ?_))))))))
  rcases ah hF with⟨hc_54,hF⟩|⟨hc_54,hF⟩
  ·refine aB rfl hc_54 (aj (aa (vI a_2) (aa (vI a_2) (af (aj (aa (vI m_3) (aa (vI m_3) (af (au ?_)))))))))
   obtain ⟨o_63,hj_64,hF⟩:=bind_some hF
   obtain ⟨nq_101,hj_64⟩:=aP hj_64
   refine aU (λ(s_60:Int×Int)=>[(0,(dV (ak 0) 6 data_1)),(2,(vI m_3)),(14,(vI s_60.1))]) (λ(s_60:Int×Int)=>[((ak 0),gB 6 Log_.enc data_1)]) (λ(k_55:Nat)=>(λ(s_60:Int×Int)=>[(0,(dV (ak 0) 6 data_1)),(2,(vI m_3)),(4,(.fn 28 [])),(14,(vI s_60.1)),(15,(vI s_60.2))])) (λs=>gL m_3 data_1 s) o_63 nq_101 (a_2,m_3) hj_64 rfl (aC rfl) ?_ ?_
   ·rintro ⟨k_55,s_60⟩ hL_62
    dsimp only at hL_62
    cases k_55 with
    | zero=>cases hL_62
    | succ k_55 =>
     obtain ⟨c_,hc_61,hL_62⟩:=bind_some hL_62
     unfold gL at hc_61
     refine au (aj (aa (vI s_60.1) (aa (vI s_60.2) (aa (vB (decide (s_60.1<s_60.2))) (af ?_)))))
     rcases ah hc_61 with⟨hc_65,hc_61⟩|⟨hc_65,hc_61⟩
     ·refine aB rfl hc_65 (ay (aI (aj (aa (vI s_60.1) (aa (vI s_60.2) (aa (vI (w64 (s_60.1+s_60.2))) (bB un3 ib rfl wz ?_)))))))
      obtain ⟨q_66,hz_67,hc_61⟩:=bind_some hc_61
      refine jI rfl rfl hz_67 wz (bB ib un3 rfl wz (aa (vI (w64 q_66)) (af (au (aQ (aa (.fn 28 []) (aa (dV (ak 0) 6 data_1) (aa (vI m_3) ?_))))))))
      obtain ⟨_,hi_68,hc_61⟩:=bind_some hc_61
      refine aO bg rfl rfl (aW hi_68) (aM hi_68) wz ?_
      obtain ⟨e_69,hy_70,hc_61⟩:=bind_some hc_61
      refine aZ 4 0 (.inr (by kernel_rfl)) (λ_ _ ag=>trivial) bf bL rfl rfl hy_70 (.d (.agg (Log_.enc e_69))) rfl wz (aa (dV (ak 0) 6 data_1) (aa (vI (w64 q_66)) ?_))
      obtain ⟨_,hi_71,hc_61⟩:=bind_some hc_61
      refine aO bg rfl rfl (aW hi_71) (aM hi_71) wz ?_
      obtain ⟨e_72,hy_73,hc_61⟩:=bind_some hc_61
      refine aZ 8 0 (.inr (by kernel_rfl)) (λ_ _ ag=>⟨.inl ⟨rfl,rfl⟩,trivial⟩) bf bL rfl rfl hy_73 (.d (.agg (Log_.enc e_72))) rfl wz ?_
      obtain ⟨r_74,hr_75,hc_61⟩:=bind_some hc_61
      refine aG (bC hr_75) rfl uU rfl rfl rfl rfl wz (aa (vB (decide (r_74<0))) (aa (vB (!(decide (r_74<0)))) (af ?_)))
      rcases ah hc_61 with⟨hc_76,hc_61⟩|⟨hc_76,hc_61⟩
      ·refine aB rfl hc_76 (av (aa (vI (w64 q_66)) (aa (vI (w64 ((w64 q_66)+1))) (aa (vI (w64 ((w64 q_66)+1))) (af ?_)))))
       obtain rfl:=ae hc_61
       exact aK (k_55,((w64 ((w64 q_66)+1)),s_60.2)) hL_62 (ls_ _) rfl (aC rfl)
      ·refine aA rfl hc_76 (av (aa (vI (w64 q_66)) (aa (vI (w64 q_66)) (af ?_))))
       obtain rfl:=ae hc_61
       exact aK (k_55,(s_60.1,(w64 q_66))) hL_62 (ls_ _) rfl (aC rfl)
     ·refine aA rfl hc_65 (aV ?_)
      obtain rfl:=ae hc_61
      obtain rfl:=ae hL_62
      exact aX ((s_60.1,s_60.2)) rfl rfl (aC rfl)
   ·rintro s_60 ho_ sl_ H_ hp_ hq_
    subst ho_
    refine aJ _ hp_ hq_ (au (aj (aa (vI m_3) (aa (vI m_3) (af ?_)))))
    obtain ⟨o_85,hj_86,hF⟩:=bind_some hF
    obtain ⟨nq_100,hj_86⟩:=aP hj_86
    refine aU (λ(s_82:(List Log_)×Int)=>[]) (λ(s_82:(List Log_)×Int)=>[((ak 0),gB 6 Log_.enc s_82.1)]) (λ(k_77:Nat)=>(λ(s_82:(List Log_)×Int)=>[(0,(dV (ak 0) 6 s_82.1)),(14,(vI s_60.1)),(17,(vI s_82.2))])) (λs=>gY s_60 s) o_85 nq_100 (data_1,m_3) hj_86 rfl (aC rfl) ?_ ?_
    ·rintro ⟨k_77,s_82⟩ hL_84
     dsimp only at hL_84
     cases k_77 with
     | zero=>cases hL_84
     | succ k_77 =>
      obtain ⟨c_,hc_83,hL_84⟩:=bind_some hL_84
      unfold gY at hc_83
      refine au (aj (aa (vI s_82.2) (aa (vI s_60.1) (aa (vB (decide (s_82.2>s_60.1))) (af ?_)))))
      rcases ah hc_83 with⟨hc_87,hc_83⟩|⟨hc_87,hc_83⟩
      ·refine aB rfl hc_87 (ay (au (aI (aQ (aa (dV (ak 0) 6 s_82.1) (aa (vI s_82.2) (aa (dV (ak 0) 6 s_82.1) (aa (vI s_82.2) (aa (vI (w64 (s_82.2-1))) (aa (dV (ak 0) 6 s_82.1) (aa (vI s_82.2) (aa (vI (w64 (s_82.2-1))) ?_))))))))))))
       obtain ⟨_,hi_88,hc_83⟩:=bind_some hc_83
       refine aO bg rfl rfl (aW hi_88) (aM hi_88) wz ?_
       obtain ⟨e_89,hy_90,hc_83⟩:=bind_some hc_83
       refine aZ 9 0 (.inr (by kernel_rfl)) (λ_ _ ag=>trivial) bf bL rfl rfl hy_90 (.d (.agg (Log_.enc e_89))) rfl wz (aa (dV (ak 0) 6 s_82.1) (aa (vI s_82.2) ?_))
       obtain ⟨_,hi_91,hc_83⟩:=bind_some hc_83
       refine aO bg rfl rfl (aW hi_91) (aM hi_91) wz ?_
       obtain ⟨e_92,hy_93,hc_83⟩:=bind_some hc_83
       refine aZ 13 0 (.inr (by kernel_rfl)) (λ_ _ ag=>⟨.inl ⟨rfl,rfl⟩,trivial⟩) bf bL rfl rfl hy_93 (.d (.agg (Log_.enc e_92))) rfl wz ?_
       obtain ⟨_,hi_94,hc_83⟩:=bind_some hc_83
       refine aO bg rfl rfl (aW hi_94) (aM hi_94) wz ?_
       obtain ⟨e_95,hy_96,hc_83⟩:=bind_some hc_83
       refine cO 15 (.inr (by kernel_rfl)) (λ_ _ ag=>⟨.inr (.inr (by kernel_rfl)),⟨.inr (.inr (by kernel_rfl)),trivial⟩⟩) 0 bf rfl rfl hy_96 e_89 rfl wz (aF (v':=(dV (ak 0) 6 (s_82.1.set (0+(s_82.2).toNat) e_89))) 0 rfl (ax (by simp)) (aF (v':=(dV (ak 0) 6 (s_82.1.set (0+(s_82.2).toNat) e_89))) 113 rfl (ax (by simp)) (aF (v':=(dV (ak 0) 6 (s_82.1.set (0+(s_82.2).toNat) e_89))) 115 rfl (ax (by simp)) (aF (v':=(dV (ak 0) 6 (s_82.1.set (0+(s_82.2).toNat) e_89))) 118 rfl (ax (by simp)) (aF (v':=(dV (ak 0) 6 (s_82.1.set (0+(s_82.2).toNat) e_89))) 123 rfl (ax (by simp)) ?_)))))
       obtain ⟨_,hi_97,hc_83⟩:=bind_some hc_83
       refine aO bg rfl rfl (aW hi_97) (aM hi_97) wz ?_
       obtain ⟨e_98,hy_99,hc_83⟩:=bind_some hc_83
       refine cO 17 (.inr (by kernel_rfl)) (λ_ _ ag=>⟨.inr (.inr (by kernel_rfl)),⟨.inr (.inr (by kernel_rfl)),⟨.inr (.inr (by kernel_rfl)),trivial⟩⟩⟩) 0 bf rfl rfl hy_99 e_92 rfl wz (aF (v':=(dV (ak 0) 6 ((s_82.1.set (0+(s_82.2).toNat) e_89).set (0+((w64 (s_82.2-1))).toNat) e_92))) 0 rfl (ax (by simp)) (aF (v':=(dV (ak 0) 6 ((s_82.1.set (0+(s_82.2).toNat) e_89).set (0+((w64 (s_82.2-1))).toNat) e_92))) 113 rfl (ax (by simp)) (aF (v':=(dV (ak 0) 6 ((s_82.1.set (0+(s_82.2).toNat) e_89).set (0+((w64 (s_82.2-1))).toNat) e_92))) 115 rfl (ax (by simp)) (aF (v':=(dV (ak 0) 6 ((s_82.1.set (0+(s_82.2).toNat) e_89).set (0+((w64 (s_82.2-1))).toNat) e_92))) 118 rfl (ax (by simp)) (aF (v':=(dV (ak 0) 6 ((s_82.1.set (0+(s_82.2).toNat) e_89).set (0+((w64 (s_82.2-1))).toNat) e_92))) 123 rfl (ax (by simp)) (af (av (aa (vI s_82.2) (aa (vI (w64 (s_82.2-1))) (aa (vI (w64 (s_82.2-1))) (af ?_)))))))))))
       obtain rfl:=ae hc_83
       exact aK (k_77,(((s_82.1.set (0+(s_82.2).toNat) e_89).set (0+((w64 (s_82.2-1))).toNat) e_92),(w64 (s_82.2-1)))) hL_84 (ls_ _) rfl (aC rfl)
      ·refine aA rfl hc_87 (aV ?_)
       obtain rfl:=ae hc_83
       obtain rfl:=ae hL_84
       exact aX ((s_82.1,s_82.2)) rfl rfl (aC rfl)
    ·rintro s_82 ho_ sl_ H_ hp_ hq_
     subst ho_
     refine aJ _ hp_ hq_ ?_
     obtain rfl:=ae hF
     exact aN (jO (bs:=([]:List Box)) (os:=([]:List Box)) (xs:=data_1) (o:=gB 6 Log_.enc s_82.1) (.inr rfl) [] trivial rfl rfl rfl rfl rfl (by kernel_rfl) bM rfl)
  ·refine aA rfl hc_54 (ay (aj (aa (vI a_2) (aa (vI b_4) (aa (vI (w64 (a_2+b_4))) (bB un3 ib rfl wz ?_))))))
   obtain ⟨q_102,hz_103,hF⟩:=bind_some hF
   refine jI rfl rfl hz_103 wz (bB ib un3 rfl wz (aa (vI (w64 q_102)) (af (aj (aa (vI (w64 q_102)) (aa (vI m_3) (aa (vI (w64 ((w64 q_102)+m_3))) (aa (vI (w64 ((w64 q_102)+m_3))) (af (aj (aa (vI 0) (aa (vI 0) (af (au (aj (aa (vI m_3) (aa (vI (w64 q_102)) (aa (vB (decide (m_3>(w64 q_102)))) (af ?_)))))))))))))))))))
   obtain ⟨v_104,h_105,hF⟩:=bind_some hF
   refine aH [(0,(dV (ak 0) 6 data_1)),(1,(vI a_2)),(2,(vI m_3)),(3,(vI b_4)),(4,(.fn 28 [])),(18,(vI (w64 q_102))),(19,(vI (w64 ((w64 q_102)+m_3)))),(20,(vI v_104.1)),(21,(vI v_104.2))] [((ak 0),gB 6 Log_.enc data_1)] ?_ ?_
   ·rcases ah h_105 with⟨hc_106,h_105⟩|⟨hc_106,h_105⟩
    ·refine aB rfl hc_106 (aj (aa (vI (w64 ((w64 q_102)+m_3))) (aa (vI b_4) (aa (vI (w64 ((w64 ((w64 q_102)+m_3))-b_4))) (aa (vI (w64 ((w64 ((w64 q_102)+m_3))-b_4))) (af (av (aa (vI (w64 q_102)) (aa (vI (w64 q_102)) (af ?_))))))))))
     obtain rfl:=ae h_105
     exact cu
    ·refine aA rfl hc_106 (aj (aa (vI a_2) (aa (vI a_2) (af (av (aa (vI m_3) (aa (vI m_3) (af ?_))))))))
     obtain rfl:=ae h_105
     exact cu
   ·rintro ⟨⟩ _ sl_ H_ hp_ hq_
    refine aJ _ hp_ hq_ (aj (aa (vI (w64 ((w64 q_102)+m_3))) (aa (vI (w64 ((w64 ((w64 q_102)+m_3))-1))) (aa (vI (w64 ((w64 ((w64 q_102)+m_3))-1))) (af (au ?_))))))
    obtain ⟨o_115,hj_116,hF⟩:=bind_some hF
    obtain ⟨nq_154,hj_116⟩:=aP hj_116
    refine aU (λ(s_112:Int×Int)=>[(0,(dV (ak 0) 6 data_1)),(1,(vI a_2)),(2,(vI m_3)),(3,(vI b_4)),(4,(.fn 28 [])),(18,(vI (w64 q_102))),(19,(vI (w64 ((w64 q_102)+m_3)))),(20,(vI s_112.1))]) (λ(s_112:Int×Int)=>[((ak 0),gB 6 Log_.enc data_1)]) (λ(k_107:Nat)=>(λ(s_112:Int×Int)=>[(0,(dV (ak 0) 6 data_1)),(1,(vI a_2)),(2,(vI m_3)),(3,(vI b_4)),(4,(.fn 28 [])),(18,(vI (w64 q_102))),(19,(vI (w64 ((w64 q_102)+m_3)))),(20,(vI s_112.1)),(21,(vI s_112.2)),(22,(vI (w64 ((w64 ((w64 q_102)+m_3))-1))))])) (λs=>gM q_102 m_3 data_1 s) o_115 nq_154 (v_104.1,v_104.2) hj_116 rfl (aC rfl) ?_ ?_
    ·rintro ⟨k_107,s_112⟩ hL_114
     dsimp only at hL_114
     cases k_107 with
     | zero=>cases hL_114
     | succ k_107 =>
      obtain ⟨c_,hc_113,hL_114⟩:=bind_some hL_114
      unfold gM at hc_113
      refine au (aj (aa (vI s_112.1) (aa (vI s_112.2) (aa (vB (decide (s_112.1<s_112.2))) (af ?_)))))
      rcases ah hc_113 with⟨hc_117,hc_113⟩|⟨hc_117,hc_113⟩
      ·refine aB rfl hc_117 (ay (aI (aj (aa (vI s_112.1) (aa (vI s_112.2) (aa (vI (w64 (s_112.1+s_112.2))) (bB un3 ib rfl wz ?_)))))))
       obtain ⟨q_118,hz_119,hc_113⟩:=bind_some hc_113
       refine jI rfl rfl hz_119 wz (bB ib un3 rfl wz (aa (vI (w64 q_118)) (af (au (aQ (aa (.fn 28 []) (aa (dV (ak 0) 6 data_1) (aa (vI (w64 ((w64 ((w64 q_102)+m_3))-1))) (aa (vI (w64 q_118)) (aa (vI (w64 ((w64 ((w64 ((w64 q_102)+m_3))-1))-(w64 q_118)))) ?_))))))))))
       obtain ⟨_,hi_120,hc_113⟩:=bind_some hc_113
       refine aO bg rfl rfl (aW hi_120) (aM hi_120) wz ?_
       obtain ⟨e_121,hy_122,hc_113⟩:=bind_some hc_113
       refine aZ 6 0 (.inr (by kernel_rfl)) (λ_ _ ag=>trivial) bf bL rfl rfl hy_122 (.d (.agg (Log_.enc e_121))) rfl wz (aa (dV (ak 0) 6 data_1) (aa (vI (w64 q_118)) ?_))
       obtain ⟨_,hi_123,hc_113⟩:=bind_some hc_113
       refine aO bg rfl rfl (aW hi_123) (aM hi_123) wz ?_
       obtain ⟨e_124,hy_125,hc_113⟩:=bind_some hc_113
       refine aZ 10 0 (.inr (by kernel_rfl)) (λ_ _ ag=>⟨.inl ⟨rfl,rfl⟩,trivial⟩) bf bL rfl rfl hy_125 (.d (.agg (Log_.enc e_124))) rfl wz ?_
       obtain ⟨r_126,hr_127,hc_113⟩:=bind_some hc_113
       refine aG (bC hr_127) rfl uU rfl rfl rfl rfl wz (aa (vB (decide (r_126<0))) (aa (vB (!(decide (r_126<0)))) (af ?_)))
       rcases ah hc_113 with⟨hc_128,hc_113⟩|⟨hc_128,hc_113⟩
       ·refine aB rfl hc_128 (av (aa (vI (w64 q_118)) (aa (vI (w64 ((w64 q_118)+1))) (aa (vI (w64 ((w64 q_118)+1))) (af ?_)))))
        obtain rfl:=ae hc_113
        exact aK (k_107,((w64 ((w64 q_118)+1)),s_112.2)) hL_114 (ls_ _) rfl (aC rfl)
       ·refine aA rfl hc_128 (av (aa (vI (w64 q_118)) (aa (vI (w64 q_118)) (af ?_))))
        obtain rfl:=ae hc_113
        exact aK (k_107,(s_112.1,(w64 q_118))) hL_114 (ls_ _) rfl (aC rfl)
      ·refine aA rfl hc_117 (aV ?_)
       obtain rfl:=ae hc_113
       obtain rfl:=ae hL_114
       exact aX ((s_112.1,s_112.2)) rfl rfl (aC rfl)
    ·rintro s_112 ho_ sl_ H_ hp_ hq_
     subst ho_
     refine aJ _ hp_ hq_ (aj (aa (vI (w64 ((w64 q_102)+m_3))) (aa (vI s_112.1) (aa (vI (w64 ((w64 ((w64 q_102)+m_3))-s_112.1))) (aa (vI (w64 ((w64 ((w64 q_102)+m_3))-s_112.1))) (af (au (au ?_))))))))
     obtain ⟨v_129,h_130,hF⟩:=bind_some hF
     refine aH [(0,(dV (ak 0) 6 data_1)),(1,(vI a_2)),(2,(vI m_3)),(3,(vI b_4)),(4,(.fn 28 [])),(18,(vI (w64 q_102))),(20,(vI s_112.1)),(24,(vI (w64 ((w64 ((w64 q_102)+m_3))-s_112.1)))),(185,(vB v_129))] [((ak 0),gB 6 Log_.enc data_1)] ?_ ?_
     ·refine av (aa (vI s_112.1) (aa (vI m_3) (aa (vB (decide (s_112.1<m_3))) ?_)))
      rcases ah h_130 with⟨hc_131,h_130⟩|⟨hc_131,h_130⟩
      ·refine aD rfl hc_131 wz (aL (vI m_3) wa rfl (aL (vI (w64 ((w64 ((w64 q_102)+m_3))-s_112.1))) wa rfl (aL (vB (decide (m_3<(w64 ((w64 ((w64 q_102)+m_3))-s_112.1))))) wa rfl (aa (vB (decide (m_3<(w64 ((w64 ((w64 q_102)+m_3))-s_112.1))))) (af ?_)))))
       obtain rfl:=ae h_130
       exact cu
      ·refine aD rfl hc_131 wz (ai (ai (ai (aa (vB false) (af ?_)))))
       obtain rfl:=ae h_130
       exact cu
     ·rintro ⟨⟩ _ sl_ H_ hp_ hq_
      refine aJ _ hp_ hq_ ?_
      obtain ⟨v_132,h_133,hF⟩:=bind_some hF
      refine aH [(0,(dV (ak 0) 6 v_132)),(1,(vI a_2)),(3,(vI b_4)),(4,(.fn 28 [])),(18,(vI (w64 q_102))),(20,(vI s_112.1)),(24,(vI (w64 ((w64 ((w64 q_102)+m_3))-s_112.1))))] [((ak 0),gB 6 Log_.enc v_132)] ?_ ?_
      ·rcases ah h_133 with⟨hc_134,h_133⟩|⟨hc_134,h_133⟩
       ·refine aB rfl hc_134 (av (aa (dV (ak 0) 6 data_1) (aa (vI s_112.1) (aa (vI m_3) (aa (vI (w64 ((w64 ((w64 q_102)+m_3))-s_112.1))) (aa (.fn 28 []) ?_))))))
        obtain ⟨r_135,hr_136,h_133⟩:=bind_some h_133
        obtain ⟨_,hs_137,h_133⟩:=bind_some h_133
        replace hs_137:=bN hs_137
        refine bX 0 [] 0 0 il ft (dP hr_136) rfl Eg rfl rfl rfl (by kernel_rfl) rfl (.inr (.inl rfl)) rfl (by kernel_rfl) (by kernel_rfl) (by kernel_rfl) (by kernel_rfl) rfl (by decide) (by kernel_rfl) bM (jb hs_137) wz ([((ak 0),gB 6 Log_.enc r_135)]:Hp) (by kernel_rfl) (aF (v':=(dV (ak 0) 6 r_135)) 0 rfl (ax hs_137.symm) (aF (v':=(dV (ak 0) 6 r_135)) 186 rfl (ax hs_137.symm) (af ?_)))
        obtain rfl:=ae h_133
        exact cu
       ·refine aA rfl hc_134 (ay ?_)
        obtain rfl:=ae h_133
        exact cu
      ·rintro ⟨⟩ _ sl_ H_ hp_ hq_
       refine aJ _ hp_ hq_ (au (au ?_))
       obtain ⟨v_138,h_139,hF⟩:=bind_some hF
       refine aH [(0,(dV (ak 0) 6 v_132)),(1,(vI a_2)),(3,(vI b_4)),(4,(.fn 28 [])),(18,(vI (w64 q_102))),(20,(vI s_112.1)),(24,(vI (w64 ((w64 ((w64 q_102)+m_3))-s_112.1)))),(199,(vB v_138))] [((ak 0),gB 6 Log_.enc v_132)] ?_ ?_
       ·refine av (aa (vI a_2) (aa (vI s_112.1) (aa (vB (decide (a_2<s_112.1))) ?_)))
        rcases ah h_139 with⟨hc_140,h_139⟩|⟨hc_140,h_139⟩
        ·refine aD rfl hc_140 wz (aL (vI s_112.1) wa rfl (aL (vI (w64 q_102)) wa rfl (aL (vB (decide (s_112.1<(w64 q_102)))) wa rfl (aa (vB (decide (s_112.1<(w64 q_102)))) (af ?_)))))
         obtain rfl:=ae h_139
         exact cu
        ·refine aD rfl hc_140 wz (ai (ai (ai (aa (vB false) (af ?_)))))
         obtain rfl:=ae h_139
         exact cu
       ·rintro ⟨⟩ _ sl_ H_ hp_ hq_
        refine aJ _ hp_ hq_ ?_
        obtain ⟨v_141,h_142,hF⟩:=bind_some hF
        refine aH [(0,(dV (ak 0) 6 v_141)),(3,(vI b_4)),(4,(.fn 28 [])),(18,(vI (w64 q_102))),(24,(vI (w64 ((w64 ((w64 q_102)+m_3))-s_112.1))))] [((ak 0),gB 6 Log_.enc v_141)] ?_ ?_
        ·rcases ah h_142 with⟨hc_143,h_142⟩|⟨hc_143,h_142⟩
         ·refine aB rfl hc_143 (av (aa (dV (ak 0) 6 v_132) (aa (vI a_2) (aa (vI s_112.1) (aa (vI (w64 q_102)) (aa (.fn 28 []) ?_))))))
          obtain ⟨r_144,hr_145,h_142⟩:=bind_some h_142
          obtain ⟨_,hs_146,h_142⟩:=bind_some h_142
          replace hs_146:=bN hs_146
          refine bX 0 [] 0 0 il ft (jk hr_145) rfl uC rfl rfl rfl (by kernel_rfl) rfl (.inr (.inl rfl)) rfl (by kernel_rfl) (by kernel_rfl) (by kernel_rfl) (by kernel_rfl) rfl (by decide) (by kernel_rfl) bM (jb hs_146) wz ([((ak 0),gB 6 Log_.enc r_144)]:Hp) (by kernel_rfl) (aF (v':=(dV (ak 0) 6 r_144)) 0 rfl (ax hs_146.symm) (aF (v':=(dV (ak 0) 6 r_144)) 200 rfl (ax hs_146.symm) (af ?_)))
          obtain rfl:=ae h_142
          exact cu
         ·refine aA rfl hc_143 (ay ?_)
          obtain rfl:=ae h_142
          exact cu
        ·rintro ⟨⟩ _ sl_ H_ hp_ hq_
         refine aJ _ hp_ hq_ (au ?_)
         obtain ⟨v_147,h_148,hF⟩:=bind_some hF
         refine aH [(0,(dV (ak 0) 6 v_141)),(3,(vI b_4)),(4,(.fn 28 [])),(18,(vI (w64 q_102))),(24,(vI (w64 ((w64 ((w64 q_102)+m_3))-s_112.1)))),(213,(vB v_147))] [((ak 0),gB 6 Log_.enc v_141)] ?_ ?_
         ·refine av (aa (vI (w64 q_102)) (aa (vI (w64 ((w64 ((w64 q_102)+m_3))-s_112.1))) (aa (vB (decide ((w64 q_102)<(w64 ((w64 ((w64 q_102)+m_3))-s_112.1))))) ?_)))
          rcases ah h_148 with⟨hc_149,h_148⟩|⟨hc_149,h_148⟩
          ·refine aD rfl hc_149 wz (aL (vI (w64 ((w64 ((w64 q_102)+m_3))-s_112.1))) wa rfl (aL (vI b_4) wa rfl (aL (vB (decide ((w64 ((w64 ((w64 q_102)+m_3))-s_112.1))<b_4))) wa rfl (aa (vB (decide ((w64 ((w64 ((w64 q_102)+m_3))-s_112.1))<b_4))) (af ?_)))))
           obtain rfl:=ae h_148
           exact cu
          ·refine aD rfl hc_149 wz (ai (ai (ai (aa (vB false) (af ?_)))))
           obtain rfl:=ae h_148
           exact cu
         ·rintro ⟨⟩ _ sl_ H_ hp_ hq_
          refine aJ _ hp_ hq_ ?_
          rcases ah hF with⟨hc_150,hF⟩|⟨hc_150,hF⟩
          ·refine aB rfl hc_150 (av (aa (dV (ak 0) 6 v_141) (aa (vI (w64 q_102)) (aa (vI (w64 ((w64 ((w64 q_102)+m_3))-s_112.1))) (aa (vI b_4) (aa (.fn 28 []) ?_))))))
           obtain ⟨r_151,hr_152,hF⟩:=bind_some hF
           obtain ⟨_,hs_153,hF⟩:=bind_some hF
           replace hs_153:=bN hs_153
           refine bX 0 [] 0 0 il ft (jk hr_152) rfl uC rfl rfl rfl (by kernel_rfl) rfl (.inr (.inl rfl)) rfl (by kernel_rfl) (by kernel_rfl) (by kernel_rfl) (by kernel_rfl) rfl (by decide) (by kernel_rfl) bM (jb hs_153) wz ([((ak 0),gB 6 Log_.enc r_151)]:Hp) (by kernel_rfl) (aF (v':=(dV (ak 0) 6 r_151)) 0 rfl (ax hs_153.symm) (aF (v':=(dV (ak 0) 6 r_151)) 214 rfl (ax hs_153.symm) (af ?_)))
           show lJ _ _ _ _ _ _ _ _
           obtain rfl:=ae hF
           exact jO (bs:=([]:List Box)) (os:=([]:List Box)) (xs:=data_1) (o:=gB 6 Log_.enc r_151) (.inl rfl) [] trivial rfl rfl rfl rfl rfl (by kernel_rfl) bM rfl
          ·refine aA rfl hc_150 (ay ?_)
           show lJ _ _ _ _ _ _ _ _
           obtain rfl:=ae hF
           exact jO (bs:=([]:List Box)) (os:=([]:List Box)) (xs:=data_1) (o:=gB 6 Log_.enc v_141) (.inl rfl) [] trivial rfl rfl rfl rfl rfl (by kernel_rfl) bM rfl
theorem mJ {data_1:(List Log_)} {n_2:Int} {r:(List Log_)} (hF:fP data_1 n_2=some r) :
  FnM Tryz.prog 40 [(dV (ak 0) 6 data_1),(vI n_2),(.fn 28 [])] (([]:List Box)++gI 6 Log_.enc data_1) (.tup []) (([]:List Box).map some++gT data_1 (gB 6 Log_.enc r)):=by
 refine FnM.of_wHv ⟨Tryz.prog,63,[],[]⟩ rfl Tryz.func40 rfl rfl (lb_ rfl) (by kernel_rfl) ?_
 unfold fP at hF
 refine aj (aa (vI 20) (af (aj (aa (vI 20) (aa (vI 0) (aa (vI 20) (af (au ?_))))))))
 obtain ⟨o_12,hj_13,hF⟩:=bind_some hF
 obtain ⟨nq_54,hj_13⟩:=aP hj_13
 refine aU (λ(s_9:(List Log_)×Int×Int)=>[(0,(dV (ak 0) 6 s_9.1)),(1,(vI n_2)),(2,(.fn 28 [])),(6,(vI 20)),(7,(vI s_9.2.1))]) (λ(s_9:(List Log_)×Int×Int)=>[((ak 0),gB 6 Log_.enc s_9.1)]) (λ(k_4:Nat)=>(λ(s_9:(List Log_)×Int×Int)=>[(0,(dV (ak 0) 6 s_9.1)),(1,(vI n_2)),(2,(.fn 28 [])),(6,(vI 20)),(7,(vI s_9.2.1)),(8,(vI s_9.2.2))])) (λs=>iH n_2 s) o_12 nq_54 (data_1,0,20) hj_13 rfl (aC rfl) ?_ ?_
 ·rintro ⟨k_4,s_9⟩ hL_11
  dsimp only at hL_11
  cases k_4 with
  | zero=>cases hL_11
  | succ k_4 =>
   obtain ⟨c_,hc_10,hL_11⟩:=bind_some hL_11
   unfold iH at hc_10
   refine au (aj (aa (vI s_9.2.2) (aa (vI n_2) (aa (vB (decide (s_9.2.2<=n_2))) (af ?_)))))
   rcases ah hc_10 with⟨hc_14,hc_10⟩|⟨hc_14,hc_10⟩
   ·refine aB rfl hc_14 (ay (aI (aj (aa (dV (ak 0) 6 s_9.1) (aa (vI s_9.2.1) (aa (vI s_9.2.2) (aa (.fn 28 []) ?_)))))))
    obtain ⟨r_15,hr_16,hc_10⟩:=bind_some hc_10
    obtain ⟨_,hs_17,hc_10⟩:=bind_some hc_10
    replace hs_17:=bN hs_17
    refine bX 0 [] 0 0 il ft (ja hr_16) rfl hb56 rfl rfl rfl (by kernel_rfl) rfl (.inr (.inl rfl)) rfl (by kernel_rfl) (by kernel_rfl) (by kernel_rfl) (by kernel_rfl) rfl (by decide) (by kernel_rfl) bM (jb hs_17) wz ([((ak 0),gB 6 Log_.enc r_15)]:Hp) (by kernel_rfl) (aF (v':=(dV (ak 0) 6 r_15)) 0 rfl (ax hs_17.symm) (aF (v':=(dV (ak 0) 6 r_15)) 14 rfl (ax hs_17.symm) (af (aj (aa (vI s_9.2.2) (aa (vI s_9.2.2) (af (av (aa (vI s_9.2.2) (aa (vI 20) (aa (vI (w64 (s_9.2.2+20))) (aa (vI (w64 (s_9.2.2+20))) (af ?_)))))))))))))
    obtain rfl:=ae hc_10
    exact aK (k_4,(r_15,s_9.2.2,(w64 (s_9.2.2+20)))) hL_11 (ls_ _) rfl (aC rfl)
   ·refine aA rfl hc_14 (aV ?_)
    obtain rfl:=ae hc_10
    obtain rfl:=ae hL_11
    exact aX ((s_9.1,s_9.2.1,s_9.2.2)) rfl rfl (aC rfl)
 ·rintro s_9 ho_ sl_ H_ hp_ hq_
  subst ho_
  refine aJ _ hp_ hq_ (aj (aa (dV (ak 0) 6 s_9.1) (aa (vI s_9.2.1) (aa (vI n_2) (aa (.fn 28 []) ?_)))))
  obtain ⟨r_18,hr_19,hF⟩:=bind_some hF
  obtain ⟨_,hs_20,hF⟩:=bind_some hF
  replace hs_20:=bN hs_20
  refine bX 0 [] 0 0 il ft (ja hr_19) rfl hb56 rfl rfl rfl (by kernel_rfl) rfl (.inr (.inl rfl)) rfl (by kernel_rfl) (by kernel_rfl) (by kernel_rfl) (by kernel_rfl) rfl (by decide) (by kernel_rfl) bM (jb hs_20) wz ([((ak 0),gB 6 Log_.enc r_18)]:Hp) (by kernel_rfl) (aF (v':=(dV (ak 0) 6 r_18)) 0 rfl (ax hs_20.symm) (aF (v':=(dV (ak 0) 6 r_18)) 23 rfl (ax hs_20.symm) (af ?_)))
  obtain ⟨o_29,hj_30,hF⟩:=bind_some hF
  obtain ⟨nq_53,hj_30⟩:=aP hj_30
  refine aU (λ(s_26:(List Log_)×Int)=>[]) (λ(s_26:(List Log_)×Int)=>[((ak 0),gB 6 Log_.enc s_26.1)]) (λ(k_21:Nat)=>(λ(s_26:(List Log_)×Int)=>[(0,(dV (ak 0) 6 s_26.1)),(1,(vI n_2)),(2,(.fn 28 [])),(6,(vI s_26.2))])) (λs=>iJ n_2 s) o_29 nq_53 (r_18,20) hj_30 rfl (aC rfl) ?_ ?_
  ·rintro ⟨k_21,s_26⟩ hL_28
   dsimp only at hL_28
   cases k_21 with
   | zero=>cases hL_28
   | succ k_21 =>
    obtain ⟨c_,hc_27,hL_28⟩:=bind_some hL_28
    unfold iJ at hc_27
    refine au (aj (aa (vI s_26.2) (aa (vI n_2) (aa (vB (decide (s_26.2<n_2))) (af ?_)))))
    rcases ah hc_27 with⟨hc_31,hc_27⟩|⟨hc_31,hc_27⟩
    ·refine aB rfl hc_31 (ay (aI (aj (aa (vI s_26.2) (aa (vI (w64 (2*s_26.2))) (aa (vI 0) (aa (vI (w64 (2*s_26.2))) (af (au ?_)))))))))
     obtain ⟨o_40,hj_41,hc_27⟩:=bind_some hc_27
     obtain ⟨nq_52,hj_41⟩:=aP hj_41
     refine aU (λ(s_37:(List Log_)×Int×Int)=>[(0,(dV (ak 0) 6 s_37.1)),(1,(vI n_2)),(2,(.fn 28 [])),(6,(vI s_26.2)),(7,(vI s_37.2.1))]) (λ(s_37:(List Log_)×Int×Int)=>[((ak 0),gB 6 Log_.enc s_37.1)]) (λ(k_32:Nat)=>(λ(s_37:(List Log_)×Int×Int)=>[(0,(dV (ak 0) 6 s_37.1)),(1,(vI n_2)),(2,(.fn 28 [])),(6,(vI s_26.2)),(7,(vI s_37.2.1)),(8,(vI s_37.2.2))])) (λs=>iG n_2 s_26 s) o_40 nq_52 (s_26.1,0,(w64 (2*s_26.2))) hj_41 rfl (aC rfl) ?_ ?_
     ·rintro ⟨k_32,s_37⟩ hL_39
      dsimp only at hL_39
      cases k_32 with
      | zero=>cases hL_39
      | succ k_32 =>
       obtain ⟨c_,hc_38,hL_39⟩:=bind_some hL_39
       unfold iG at hc_38
       refine au (aj (aa (vI s_37.2.2) (aa (vI n_2) (aa (vB (decide (s_37.2.2<=n_2))) (af ?_)))))
       rcases ah hc_38 with⟨hc_42,hc_38⟩|⟨hc_42,hc_38⟩
       ·refine aB rfl hc_42 (ay (aI (aj (aa (dV (ak 0) 6 s_37.1) (aa (vI s_37.2.1) (aa (vI s_37.2.1) (aa (vI s_26.2) (aa (vI (w64 (s_37.2.1+s_26.2))) (aa (vI s_37.2.2) (aa (.fn 28 []) ?_))))))))))
        obtain ⟨r_43,hr_44,hc_38⟩:=bind_some hc_38
        obtain ⟨_,hs_45,hc_38⟩:=bind_some hc_38
        replace hs_45:=bN hs_45
        refine bX 0 [] 0 0 il ft (jM hr_44) rfl uC rfl rfl rfl (by kernel_rfl) rfl (.inr (.inl rfl)) rfl (by kernel_rfl) (by kernel_rfl) (by kernel_rfl) (by kernel_rfl) rfl (by decide) (by kernel_rfl) bM (jb hs_45) wz ([((ak 0),gB 6 Log_.enc r_43)]:Hp) (by kernel_rfl) (aF (v':=(dV (ak 0) 6 r_43)) 0 rfl (ax hs_45.symm) (aF (v':=(dV (ak 0) 6 r_43)) 36 rfl (ax hs_45.symm) (af (aj (aa (vI s_37.2.2) (aa (vI s_37.2.2) (af (av (aa (vI s_37.2.2) (aa (vI s_26.2) (aa (vI (w64 (2*s_26.2))) (aa (vI (w64 (s_37.2.2+(w64 (2*s_26.2))))) (aa (vI (w64 (s_37.2.2+(w64 (2*s_26.2))))) (af ?_))))))))))))))
        obtain rfl:=ae hc_38
        exact aK (k_32,(r_43,s_37.2.2,(w64 (s_37.2.2+(w64 (2*s_26.2)))))) hL_39 (ls_ _) rfl (aC rfl)
       ·refine aA rfl hc_42 (aV ?_)
        obtain rfl:=ae hc_38
        obtain rfl:=ae hL_39
        exact aX ((s_37.1,s_37.2.1,s_37.2.2)) rfl rfl (aC rfl)
     ·rintro s_37 ho_ sl_ H_ hp_ hq_
      subst ho_
      refine aJ _ hp_ hq_ (au (aj (aa (vI s_37.2.1) (aa (vI s_26.2) (aa (vI (w64 (s_37.2.1+s_26.2))) (aa (vI (w64 (s_37.2.1+s_26.2))) (af (aj (aa (vI (w64 (s_37.2.1+s_26.2))) (aa (vI n_2) (aa (vB (decide ((w64 (s_37.2.1+s_26.2))<n_2))) (af ?_))))))))))))
      obtain ⟨v_46,h_47,hc_27⟩:=bind_some hc_27
      refine aH [(0,(dV (ak 0) 6 v_46)),(1,(vI n_2)),(2,(.fn 28 [])),(6,(vI s_26.2))] [((ak 0),gB 6 Log_.enc v_46)] ?_ ?_
      ·rcases ah h_47 with⟨hc_48,h_47⟩|⟨hc_48,h_47⟩
       ·refine aB rfl hc_48 (av (aa (dV (ak 0) 6 s_37.1) (aa (vI s_37.2.1) (aa (vI (w64 (s_37.2.1+s_26.2))) (aa (vI n_2) (aa (.fn 28 []) ?_))))))
        obtain ⟨r_49,hr_50,h_47⟩:=bind_some h_47
        obtain ⟨_,hs_51,h_47⟩:=bind_some h_47
        replace hs_51:=bN hs_51
        refine bX 0 [] 0 0 il ft (jM hr_50) rfl uC rfl rfl rfl (by kernel_rfl) rfl (.inr (.inl rfl)) rfl (by kernel_rfl) (by kernel_rfl) (by kernel_rfl) (by kernel_rfl) rfl (by decide) (by kernel_rfl) bM (jb hs_51) wz ([((ak 0),gB 6 Log_.enc r_49)]:Hp) (by kernel_rfl) (aF (v':=(dV (ak 0) 6 r_49)) 0 rfl (ax hs_51.symm) (aF (v':=(dV (ak 0) 6 r_49)) 55 rfl (ax hs_51.symm) (af ?_)))
        obtain rfl:=ae h_47
        exact cu
       ·refine aA rfl hc_48 (ay ?_)
        obtain rfl:=ae h_47
        exact cu
      ·rintro ⟨⟩ _ sl_ H_ hp_ hq_
       refine aJ _ hp_ hq_ (av (aa (vI s_26.2) (aa (vI (w64 (s_26.2*2))) (aa (vI (w64 (s_26.2*2))) (af ?_)))))
       obtain rfl:=ae hc_27
       exact aK (k_21,(v_46,(w64 (s_26.2*2)))) hL_28 (ls_ _) rfl (aC rfl)
    ·refine aA rfl hc_31 (aV ?_)
     obtain rfl:=ae hc_27
     obtain rfl:=ae hL_28
     exact aX ((s_26.1,s_26.2)) rfl rfl (aC rfl)
  ·rintro s_26 ho_ sl_ H_ hp_ hq_
   subst ho_
   show lJ _ _ _ _ _ _ _ _
   obtain rfl:=ae hF
   exact uB (H0:=([((ak 0),gB 6 Log_.enc s_26.1)]:Hp)) (sl':=envS []) hq_ (jO (bs:=([]:List Box)) (os:=([]:List Box)) (xs:=data_1) (o:=gB 6 Log_.enc s_26.1) (.inl rfl) [] trivial rfl rfl rfl rfl rfl (by kernel_rfl) bM rfl)
theorem lc {x_1:(List Log_)} {r:(List Log_)} (hF:bP x_1=some r) :
  FnM Tryz.prog 27 [(dV (ak 0) 6 x_1),(.fn 28 [])] (([]:List Box)++gI 6 Log_.enc x_1) (.tup []) (([]:List Box).map some++gT x_1 (gB 6 Log_.enc r)):=by
 refine FnM.of_wHv ⟨Tryz.prog,9,[],[]⟩ rfl Tryz.func27 rfl rfl (lb_ rfl) (by kernel_rfl) ?_
 unfold bP at hF
 refine av (aa (dV (ak 0) 6 x_1) (aa (dV (ak 0) 6 x_1) (Cj lK rfl wz (aa (.fn 28 []) ?_))))
 obtain ⟨r_3,hr_4,hF⟩:=bind_some hF
 obtain ⟨_,hs_5,hF⟩:=bind_some hF
 replace hs_5:=bN hs_5
 refine bX 0 [] 0 0 il ft (mJ hr_4) rfl hb40 rfl rfl rfl (by kernel_rfl) rfl (.inr (.inl rfl)) rfl (by kernel_rfl) (by kernel_rfl) (by kernel_rfl) (by kernel_rfl) rfl (by decide) (by kernel_rfl) bM (jb hs_5) wz ([((ak 0),gB 6 Log_.enc r_3)]:Hp) (by kernel_rfl) (aF (v':=(dV (ak 0) 6 r_3)) 0 rfl (ax hs_5.symm) (aF (v':=(dV (ak 0) 6 r_3)) 4 rfl (ax hs_5.symm) (aF (v':=(dV (ak 0) 6 r_3)) 5 rfl (ax hs_5.symm) (af ?_))))
 show lJ _ _ _ _ _ _ _ _
 obtain rfl:=ae hF
 exact jO (bs:=([]:List Box)) (os:=([]:List Box)) (xs:=x_1) (o:=gB 6 Log_.enc r_3) (.inl rfl) [] trivial rfl rfl rfl rfl rfl (by kernel_rfl) bM rfl
theorem jP {slices_1:(List (List Log_))} {r:(List Log_)} (hF:cK slices_1=some r) :
  FnM Tryz.prog 26 [(vL (eL Log_.enc) slices_1)] [] (gV (ak 0) 6 r) (([]:List Box).map some++gO 6 Log_.enc r):=by
 refine FnM.of_wH ⟨Tryz.prog,36,[],[]⟩ rfl Tryz.func26 rfl rfl (lb_ rfl) (by kernel_rfl) ?_
 unfold cK at hF
 refine aj (aa .nil (af (aj (aa (vI 0) (af (au (aj (aa (vL (eL Log_.enc) slices_1) (iT un67 rfl wz (aa (vI 0) (af ?_)))))))))))
 obtain ⟨o_10,hj_11,hF⟩:=bind_some hF
 obtain ⟨hn_6,hj_11⟩:=dI hj_11
 refine jE (λ(s_7:Int)=>[(0,(vL (eL Log_.enc) slices_1)),(3,(vI s_7))]) (λ(s_7:Int)=>[]) (λ(k_2:Nat)=>(λ(s_7:Int)=>[(0,(vL (eL Log_.enc) slices_1)),(3,(vI s_7)),(9,(vL (eL Log_.enc) slices_1)),(10,(vI (slices_1.length:Int))),(11,(vI (k_2:Int)))])) (λk x s=>bI k x s) o_10 slices_1 0 hj_11 rfl (aC rfl) ?_ ?_
 ·rintro ⟨k_2,l_3,s_7⟩ ⟨hL_9,hD_5⟩
  dsimp only at hL_9 hD_5
  cases l_3 with
  | nil =>
   obtain rfl:=ae hL_9
   refine aj (aa (vB (decide ((k_2:Int)<(slices_1.length:Int)))) (af ?_))
   refine au (aA rfl (drop_nil hD_5) (aV ?_))
   exact aX (s_7) rfl rfl (aC rfl)
  | cons x_4 l_3 =>
   obtain ⟨c_,hc_8,hL_9⟩:=bind_some hL_9
   refine aj (aa (vB (decide ((k_2:Int)<(slices_1.length:Int)))) (af ?_))
   refine au (aB rfl (iy hD_5) (ay ?_))
   unfold bI at hc_8
   refine au (aI (aj (jQ es67 rfl rfl (iW hD_5) rfl wz (fO sz26 ag26 rfl (vL Log_.enc x_4) rfl wz (aa (vL Log_.enc x_4) (af (aj (aa (vI s_7) (aa (vL Log_.enc x_4) (iT lK rfl wz (aa (vI (w64 (s_7+(x_4.length:Int)))) (aa (vI (w64 (s_7+(x_4.length:Int)))) (af (aj (aa (vI (w64 (s_7+(x_4.length:Int)))) (aa (vB (decide ((w64 (s_7+(x_4.length:Int)))<0))) (af ?_)))))))))))))))))
   obtain ⟨v_12,h_13,hc_8⟩:=bind_some hc_8
   refine aH [(0,(vL (eL Log_.enc) slices_1)),(3,(vI (w64 (s_7+(x_4.length:Int))))),(9,(vL (eL Log_.enc) slices_1)),(10,(vI (slices_1.length:Int))),(11,(vI (k_2:Int)))] [] ?_ ?_
   ·rcases ah h_13 with⟨hc_14,h_13⟩|⟨hc_14,h_13⟩
    ·refine aB rfl hc_14 (av ?_)
     cases h_13
    ·refine aA rfl hc_14 (ay ?_)
     obtain rfl:=ae h_13
     exact cu
   ·rintro ⟨⟩ _ sl_ H_ hp_ hq_
    refine aJ _ hp_ hq_ (av (lw (iB hD_5 hn_6) wz rfl (aa (vI ((k_2+1:Nat):Int)) (af ?_))))
    obtain rfl:=ae hc_8
    exact aK (k_2+1,l_3,(w64 (s_7+(x_4.length:Int)))) ⟨hL_9,bR hD_5⟩ (ls_ _) rfl (aC rfl)
 ·rintro s_7 ho_ sl_ H_ hp_ hq_
  subst ho_
  refine aJ _ hp_ hq_ (aj (aa (vI s_7) ?_))
  obtain ⟨b_15,hr_16,hF⟩:=bind_some hF
  refine h_callk (enc:=Log_.enc) (nE hr_16) rfl hb39 (by kernel_rfl) rfl (by kernel_rfl) wz (λn_17=>aa (kV b_15 n_17 6 ([]:List Log_)) (af (au (aj (aa (vL (eL Log_.enc) slices_1) (iT un67 rfl wz (aa (vI 0) (af ?_))))))))
  obtain ⟨o_28,hj_29,hF⟩:=bind_some hF
  obtain ⟨hn_22,hj_29⟩:=dI hj_29
  refine nz (σ:=(List Log_)) (N:=Nm) (λp=>(λ(s_23:List Log_) (n_25:Nm)=>([(6,(kV b_15 n_25 6 s_23))]:SL_)) p.1 p.2) (λp=>(λ(s_23:List Log_) (n_25:Nm)=>([(n_25,kB b_15 6 Log_.enc s_23)]:Hp)) p.1 p.2) (λ(k_18:Nat)=>(λp=>(λ(s_23:List Log_) (n_25:Nm)=>([(6,(kV b_15 n_25 6 s_23)),(25,(vL (eL Log_.enc) slices_1)),(26,(vI (slices_1.length:Int))),(27,(vI (k_18:Int)))]:SL_)) p.1 p.2)) (λk x s=>bJ k x s) o_28 slices_1 (([]:List Log_),n_17) hj_29 rfl (aC rfl) ?_ ?_
  ·rintro ⟨k_18,l_19,s_23,n_25⟩ ⟨hL_27,hD_21⟩
   dsimp only at hL_27 hD_21
   cases l_19 with
   | nil =>
    obtain rfl:=ae hL_27
    refine aj (aa (vB (decide ((k_18:Int)<(slices_1.length:Int)))) (af ?_))
    refine au (aA rfl (drop_nil hD_21) (aV ?_))
    exact aX (s_23,n_25) rfl rfl (aC rfl)
   | cons x_20 l_19 =>
    obtain ⟨c_,hc_26,hL_27⟩:=bind_some hL_27
    refine aj (aa (vB (decide ((k_18:Int)<(slices_1.length:Int)))) (af ?_))
    refine au (aB rfl (iy hD_21) (ay ?_))
    unfold bJ at hc_26
    refine au (aI (aj (jQ es67 rfl rfl (iW hD_21) rfl wz (fO sz26 ag26 rfl (vL Log_.enc x_20) rfl wz (aa (vL Log_.enc x_20) (af (av (aa (kV b_15 n_25 6 s_23) (aa (vL Log_.enc x_20) ?_)))))))))
    obtain ⟨a_30,hz_31,hc_26⟩:=bind_some hc_26
    refine h_appk 0 il ft (i:=0) wh wh bf z31 rfl (by decide) GK (by decide) (λ_=>rfl) rfl rfl rfl hz_31 wz (λn_32=>aa (kV b_15 n_32 6 a_30) (af (av (lw (iB hD_21 hn_22) wz rfl (aa (vI ((k_18+1:Nat):Int)) (af ?_))))))
    obtain rfl:=ae hc_26
    exact aK (k_18+1,l_19,a_30,n_32) ⟨hL_27,bR hD_21⟩ (ls_ _) rfl (aC rfl)
  ·rintro ⟨s_23,n_25⟩ ho_ sl_ H_ hp_ hq_
   subst ho_
   refine aJ _ hp_ hq_ (aj (aa (kV b_15 n_25 6 s_23) (aa (kV b_15 n_25 6 s_23) (af ?_))))
   obtain ⟨_,hk_,hF⟩:=bind_some hF
   refine wH_re (v':=(gV n_25 6 s_23)) 2 rfl (kV_g hk_) (wH_reH (b':=gB 6 Log_.enc s_23) 0 rfl (kB_g hk_) ?_)
   obtain rfl:=ae hF
   exact aN (finG (outs:=([]:List Box)) (.inr rfl) 0 rfl rfl rfl (by kernel_rfl) (by kernel_rfl))
theorem jL {s_1:(List Log_)} {r:(List Log_)} (hF:bS s_1=some r) :
  FnM Tryz.prog 29 [(dV (ak 0) 6 s_1)] (([]:List Box)++gI 6 Log_.enc s_1) (vL Log_.enc r) (([]:List Box).map some++gT s_1 none):=by
 refine FnM.of_wHv ⟨Tryz.prog,61,[],[]⟩ rfl Tryz.func29 rfl rfl (lb_ rfl) (by kernel_rfl) ?_
 unfold bS at hF
 refine aj (aa .nil (af (au (aj (aa (dV (ak 0) 6 s_1) (Cj lK rfl wz (aa (vB (decide ((s_1.length:Int)<2))) (af ?_))))))))
 rcases ah hF with⟨hc_2,hF⟩|⟨hc_2,hF⟩
 ·refine aB rfl hc_2 (aj (aa (dV (ak 0) 6 s_1) (aa (dV (ak 0) 6 s_1) (af (lT 0 rfl (uW 0 0 rfl rfl (uW 2 0 rfl rfl (uW 6 0 rfl rfl (uW 9 0 rfl rfl (CO (i:=0) rfl ?_))))))))))
  obtain rfl:=ae hF
  exact aN (jO (bs:=([]:List Box)) (os:=([]:List Box)) (xs:=s_1) (o:=none) (.inr rfl) [(vL Log_.enc s_1)] ⟨rfl,trivial⟩ rfl rfl rfl rfl rfl (by kernel_rfl) vz rfl)
 ·refine aA rfl hc_2 (ay (au (aj (aa (vI 1) (af ?_)))))
  obtain ⟨o_11,hj_12,hF⟩:=bind_some hF
  obtain ⟨nq_52,hj_12⟩:=aP hj_12
  refine aU (λ(s_8:Int)=>[(0,(dV (ak 0) 6 s_1))]) (λ(s_8:Int)=>[((ak 0),gB 6 Log_.enc s_1)]) (λ(k_3:Nat)=>(λ(s_8:Int)=>[(0,(dV (ak 0) 6 s_1)),(3,(vI s_8))])) (λs=>ik s_1 s) o_11 nq_52 1 hj_12 rfl (aC rfl) ?_ ?_
  ·rintro ⟨k_3,s_8⟩ hL_10
   dsimp only at hL_10
   cases k_3 with
   | zero=>cases hL_10
   | succ k_3 =>
    obtain ⟨c_,hc_9,hL_10⟩:=bind_some hL_10
    unfold ik at hc_9
    refine au (aj (aa (vI s_8) (aa (dV (ak 0) 6 s_1) (Cj lK rfl wz (aa (vB (decide (s_8<(s_1.length:Int)))) (af ?_))))))
    rcases ah hc_9 with⟨hc_13,hc_9⟩|⟨hc_13,hc_9⟩
    ·refine aB rfl hc_13 (ay (au (aI (au (aQ (aa (dV (ak 0) 6 s_1) (aa (vI s_8) ?_)))))))
     obtain ⟨_,hi_14,hc_9⟩:=bind_some hc_9
     refine aO bg rfl rfl (aW hi_14) (aM hi_14) wz ?_
     obtain ⟨e_15,hy_16,hc_9⟩:=bind_some hc_9
     refine aZ 3 0 (.inr (by kernel_rfl)) (λ_ _ ag=>trivial) bf bL rfl rfl hy_16 (.d (.agg (Log_.enc e_15))) rfl wz (aa (dV (ak 0) 6 s_1) (aa (vI s_8) (aa (vI (w64 (s_8-1))) ?_)))
     obtain ⟨_,hi_17,hc_9⟩:=bind_some hc_9
     refine aO bg rfl rfl (aW hi_17) (aM hi_17) wz ?_
     obtain ⟨e_18,hy_19,hc_9⟩:=bind_some hc_9
     refine aZ 8 0 (.inr (by kernel_rfl)) (λ_ _ ag=>⟨.inl ⟨rfl,rfl⟩,trivial⟩) bf bL rfl rfl hy_19 (.d (.agg (Log_.enc e_18))) rfl wz (aL (vB ((e_15.Player.toList==e_18.Player.toList)&&((e_15.Item.toList==e_18.Item.toList)&&((e_15.No==e_18.No)&&((e_15.Clock==e_18.Clock)&&((e_15.Long==e_18.Long)&&((e_15.Sum.toList==e_18.Sum.toList)&&true))))))) wz (by kernel_rfl) (af ?_))
     rcases ah hc_9 with⟨hc_20,hc_9⟩|⟨hc_20,hc_9⟩
     ·refine aB rfl hc_20 (aj (aa (dV (ak 0) 6 s_1) (aa (vI s_8) ?_)))
      obtain ⟨_,hn_21,hc_9⟩:=bind_some hc_9
      replace hn_21:=neL_ne hn_21
      refine aF (v':=(vV (ak 0) 6 s_1)) 0 rfl (vM hn_21) (aF (v':=(vV (ak 0) 6 s_1)) 11 rfl (vM hn_21) (aF (v':=(vV (ak 0) 6 s_1)) 16 rfl (vM hn_21) (aF (v':=(vV (ak 0) 6 s_1)) 20 rfl (vM hn_21) (aF (v':=(vV (ak 0) 6 s_1)) 26 rfl (vM hn_21) (h_reH 0 rfl (gB_cons hn_21) ?_)))))
      obtain ⟨_,hr_22,hc_9⟩:=bind_some hc_9
      refine DZ lK bf rfl rfl hr_22 wz (aa (.vs (ak 0) 6 ((s_8).toNat) (((s_1.length:Int)).toNat-(s_8).toNat)) (af (au (aj (aa (vI 1) (af ?_))))))
      obtain ⟨o_31,hj_32,hc_9⟩:=bind_some hc_9
      obtain ⟨nq_51,hj_32⟩:=aP hj_32
      refine aU (λ(s_28:(List Log_)×Int×Int)=>[(0,(vV (ak 0) 6 s_28.1)),(3,(vI s_28.2.1))]) (λ(s_28:(List Log_)×Int×Int)=>[((ak 0),some (bV 6 Log_.enc s_28.1))]) (λ(k_23:Nat)=>(λ(s_28:(List Log_)×Int×Int)=>[(0,(vV (ak 0) 6 s_28.1)),(3,(vI s_28.2.1)),(4,(.vs (ak 0) 6 ((s_8).toNat) (((s_1.length:Int)).toNat-(s_8).toNat))),(5,(vI s_28.2.2))])) (λs=>gW s_1 s_8 s) o_31 nq_51 (s_1,s_8,1) hj_32 rfl (aC rfl) ?_ ?_
      ·rintro ⟨k_23,s_28⟩ hL_30
       dsimp only at hL_30
       cases k_23 with
       | zero=>cases hL_30
       | succ k_23 =>
        obtain ⟨c_,hc_29,hL_30⟩:=bind_some hL_30
        unfold gW at hc_29
        refine au (aj (aa (vI s_28.2.2) (aa (.vs (ak 0) 6 ((s_8).toNat) (((s_1.length:Int)).toNat-(s_8).toNat)) (h_lenp lK rfl wz (aa (vB (decide (s_28.2.2<(((((s_1.length:Int)).toNat-(s_8).toNat):Nat):Int)))) (af ?_))))))
        rcases ah hc_29 with⟨hc_33,hc_29⟩|⟨hc_33,hc_29⟩
        ·refine aB rfl hc_33 (ay (au (aI (au (aQ (aa (.vs (ak 0) 6 ((s_8).toNat) (((s_1.length:Int)).toNat-(s_8).toNat)) (aa (vI s_28.2.2) ?_)))))))
         obtain ⟨_,hi_34,hc_29⟩:=bind_some hc_29
         refine A9 bg rfl rfl (xH hi_34) (sG hi_34) wz ?_
         obtain ⟨e_35,hy_36,hc_29⟩:=bind_some hc_29
         refine Gg 3 0 (.inr (by kernel_rfl)) (λ_ _ ag=>trivial) bf bL rfl rfl hy_36 (.d (.agg (Log_.enc e_35))) rfl wz (aa (.vs (ak 0) 6 ((s_8).toNat) (((s_1.length:Int)).toNat-(s_8).toNat)) (aa (vI s_28.2.2) (aa (vI (w64 (s_28.2.2-1))) ?_)))
         obtain ⟨_,hi_37,hc_29⟩:=bind_some hc_29
         refine A9 bg rfl rfl (xH hi_37) (sG hi_37) wz ?_
         obtain ⟨e_38,hy_39,hc_29⟩:=bind_some hc_29
         refine Gg 8 0 (.inr (by kernel_rfl)) (λ_ _ ag=>⟨.inl ⟨rfl,rfl⟩,trivial⟩) bf bL rfl rfl hy_39 (.d (.agg (Log_.enc e_38))) rfl wz (aL (vB (!((e_35.Player.toList==e_38.Player.toList)&&((e_35.Item.toList==e_38.Item.toList)&&((e_35.No==e_38.No)&&((e_35.Clock==e_38.Clock)&&((e_35.Long==e_38.Long)&&((e_35.Sum.toList==e_38.Sum.toList)&&true)))))))) wz (by kernel_rfl) (af ?_))
         obtain ⟨v_40,h_41,hc_29⟩:=bind_some hc_29
         refine aH [(0,(vV (ak 0) 6 v_40.1)),(3,(vI v_40.2)),(4,(.vs (ak 0) 6 ((s_8).toNat) (((s_1.length:Int)).toNat-(s_8).toNat))),(5,(vI s_28.2.2))] [((ak 0),some (bV 6 Log_.enc v_40.1))] ?_ ?_
         ·rcases ah h_41 with⟨hc_42,h_41⟩|⟨hc_42,h_41⟩
          ·refine aB rfl hc_42 (aj (aa (vV (ak 0) 6 s_28.1) (aa (vI s_28.2.1) (aa (.vs (ak 0) 6 ((s_8).toNat) (((s_1.length:Int)).toNat-(s_8).toNat)) (aa (vI s_28.2.2) ?_)))))
           obtain ⟨_,hi_43,h_41⟩:=bind_some h_41
           refine A9 bg rfl rfl (xH hi_43) (sG hi_43) wz ?_
           obtain ⟨e_44,hy_45,h_41⟩:=bind_some h_41
           refine Gg 0 0 il ft bf bL rfl rfl hy_45 (.d (.agg (Log_.enc e_44))) rfl wz ?_
           obtain ⟨_,hi_46,h_41⟩:=bind_some h_41
           refine A9 bg rfl rfl (aW hi_46) (aM hi_46) wz ?_
           obtain ⟨e_47,hy_48,h_41⟩:=bind_some h_41
           refine zV 0 il ft 0 bf rfl rfl hy_48 e_44 rfl wz (aF (v':=(vV (ak 0) 6 (s_28.1.set (0+(s_28.2.1).toNat) e_44))) 0 rfl (CR (by simp)) (aF (v':=(vV (ak 0) 6 (s_28.1.set (0+(s_28.2.1).toNat) e_44))) 45 rfl (CR (by simp)) (af (av (aa (vI s_28.2.1) (aa (vI (w64 (s_28.2.1+1))) (aa (vI (w64 (s_28.2.1+1))) (af ?_))))))))
           obtain rfl:=ae h_41
           exact cu
          ·refine aA rfl hc_42 (ay ?_)
           obtain rfl:=ae h_41
           exact cu
         ·rintro ⟨⟩ _ sl_ H_ hp_ hq_
          refine aJ _ hp_ hq_ (av (aa (vI s_28.2.2) (aa (vI (w64 (s_28.2.2+1))) (aa (vI (w64 (s_28.2.2+1))) (af ?_)))))
          obtain rfl:=ae hc_29
          exact aK (k_23,(v_40.1,v_40.2,(w64 (s_28.2.2+1)))) hL_30 (ls_ _) rfl (aC rfl)
        ·refine aA rfl hc_33 (aV ?_)
         obtain rfl:=ae hc_29
         obtain rfl:=ae hL_30
         exact aX ((s_28.1,s_28.2.1,s_28.2.2)) rfl rfl (aC rfl)
      ·rintro s_28 ho_ sl_ H_ hp_ hq_
       subst ho_
       refine aJ _ hp_ hq_ (aj (aa (vV (ak 0) 6 s_28.1) (aa (vI s_28.2.1) ?_)))
       obtain ⟨_,hr_49,hc_9⟩:=bind_some hc_9
       refine DZ lK bf rfl rfl hr_49 wz (h_clear (i:=0) 0 il ft (⟨(⟨#[]⟩:ByteArray),(⟨#[]⟩:ByteArray),0,0,0,(⟨#[]⟩:ByteArray)⟩:Log_) wh bf z31 rfl rfl rfl (by decide) rfl (uj hr_49) rfl wz (aF (v':=(vV (ak 0) 6 (s_28.1.take ((s_28.2.1).toNat)++List.replicate (((s_28.1.length:Int)).toNat-(s_28.2.1).toNat) (⟨(⟨#[]⟩:ByteArray),(⟨#[]⟩:ByteArray),0,0,0,(⟨#[]⟩:ByteArray)⟩:Log_)++s_28.1.drop (((s_28.2.1).toNat)+(((s_28.1.length:Int)).toNat-(s_28.2.1).toNat))))) 0 rfl (CR (AX (uj hr_49))) (aF (v':=(vV (ak 0) 6 (s_28.1.take ((s_28.2.1).toNat)++List.replicate (((s_28.1.length:Int)).toNat-(s_28.2.1).toNat) (⟨(⟨#[]⟩:ByteArray),(⟨#[]⟩:ByteArray),0,0,0,(⟨#[]⟩:ByteArray)⟩:Log_)++s_28.1.drop (((s_28.2.1).toNat)+(((s_28.1.length:Int)).toNat-(s_28.2.1).toNat))))) 54 rfl (CR (AX (uj hr_49))) (af (aj (aa (vV (ak 0) 6 (s_28.1.take ((s_28.2.1).toNat)++List.replicate (((s_28.1.length:Int)).toNat-(s_28.2.1).toNat) (⟨(⟨#[]⟩:ByteArray),(⟨#[]⟩:ByteArray),0,0,0,(⟨#[]⟩:ByteArray)⟩:Log_)++s_28.1.drop (((s_28.2.1).toNat)+(((s_28.1.length:Int)).toNat-(s_28.2.1).toNat)))) (aa (vI s_28.2.1) ?_)))))))
       obtain ⟨_,hr_50,hc_9⟩:=bind_some hc_9
       refine IJ lK bf rfl rfl hr_50 wz (aa (.vs (ak 0) 6 0 ((s_28.2.1).toNat)) (af (Gf 0 rfl (CZ 0 0 rfl rfl (Iq 2 0 rfl rfl (uj hr_50) (CZ 54 0 rfl rfl (CZ 57 0 rfl rfl (Iq 59 0 rfl rfl (uj hr_50) (CO (i:=0) rfl ?_)))))))))
       obtain rfl:=ae hc_9
       obtain rfl:=ae hL_10
       obtain rfl:=ae hF
       exact aN (jO (bs:=([]:List Box)) (os:=([]:List Box)) (xs:=s_1) (o:=none) (.inr rfl) [(vL Log_.enc (yo (s_28.1.take ((s_28.2.1).toNat)++List.replicate (((s_28.1.length:Int)).toNat-(s_28.2.1).toNat) (⟨(⟨#[]⟩:ByteArray),(⟨#[]⟩:ByteArray),0,0,0,(⟨#[]⟩:ByteArray)⟩:Log_)++s_28.1.drop (((s_28.2.1).toNat)+(((s_28.1.length:Int)).toNat-(s_28.2.1).toNat))) 0 ((s_28.2.1).toNat)))] ⟨rfl,trivial⟩ rfl rfl rfl rfl rfl (by kernel_rfl) vz rfl)
     ·refine aA rfl hc_20 (ay (av (aa (vI s_8) (aa (vI (w64 (s_8+1))) (aa (vI (w64 (s_8+1))) (af ?_))))))
      obtain rfl:=ae hc_9
      exact aK (k_3,(w64 (s_8+1))) hL_10 (ls_ _) rfl (aC rfl)
    ·refine aA rfl hc_13 (aV ?_)
     obtain rfl:=ae hc_9
     obtain rfl:=ae hL_10
     exact aX (s_8) rfl rfl (aC rfl)
  ·rintro s_8 ho_ sl_ H_ hp_ hq_
   subst ho_
   refine aJ _ hp_ hq_ (aj (aa (dV (ak 0) 6 s_1) (aa (dV (ak 0) 6 s_1) (af (lT 0 rfl (uW 0 0 rfl rfl (uW 2 0 rfl rfl (uW 60 0 rfl rfl (CO (i:=0) rfl ?_)))))))))
   obtain rfl:=ae hF
   exact aN (jO (bs:=([]:List Box)) (os:=([]:List Box)) (xs:=s_1) (o:=none) (.inr rfl) [(vL Log_.enc s_1)] ⟨rfl,trivial⟩ rfl rfl rfl rfl rfl (by kernel_rfl) vz rfl)
theorem zg {a_1:(List Log_)} {b_2:(List Log_)} {r:(List Log_)×Int} (hF:lg a_1 b_2=some r) :
  FnM Tryz.prog 9 [(vL Log_.enc a_1),(vL Log_.enc b_2)] [] (.tup [(vL Log_.enc r.1),(vI r.2)]) []:=by
 refine FnM.of_wH ⟨Tryz.prog,52,[],[]⟩ rfl Tryz.func9 rfl rfl (lb_ rfl) (by kernel_rfl) ?_
 unfold lg at hF
 refine aj (aa .nil (aa (vI 0) (af (au (aj (aa (vL Log_.enc a_1) (aa (vL Log_.enc b_2) (aL (.d (.agg [dl Log_.enc a_1,dl Log_.enc b_2])) wz (by kernel_rfl) (aa (vI 0) (af ?_))))))))))
 obtain ⟨o_11,hj_12,hF⟩:=bind_some hF
 obtain ⟨hn_7,hj_12⟩:=dI hj_12
 refine jE (λ(s_8:Unit)=>[(0,(vL Log_.enc a_1)),(1,(vL Log_.enc b_2))]) (λ(s_8:Unit)=>[]) (λ(k_3:Nat)=>(λ(s_8:Unit)=>[(0,(vL Log_.enc a_1)),(1,(vL Log_.enc b_2)),(13,(.d (.agg [dl Log_.enc a_1,dl Log_.enc b_2]))),(14,(vI (k_3:Int)))])) (λk x s=>dK a_1 b_2 k x s) o_11 (List.range (2:Int).toNat) () hj_12 rfl (aC rfl) ?_ ?_
 ·rintro ⟨k_3,l_4,s_8⟩ ⟨hL_10,hD_6⟩
  dsimp only at hL_10 hD_6
  cases l_4 with
  | nil =>
   obtain rfl:=ae hL_10
   refine aj (aa (vB (decide ((k_3:Int)<2))) (af ?_))
   refine au (aA rfl (qH hD_6) (aV ?_))
   exact aX (s_8) rfl rfl (aC rfl)
  | cons x_5 l_4 =>
   obtain ⟨c_,hc_9,hL_10⟩:=bind_some hL_10
   refine aj (aa (vB (decide ((k_3:Int)<2))) (af ?_))
   refine au (aB rfl (pY hD_6) (ay ?_))
   unfold dK at hc_9
   refine au (aI (aj ?_))
   obtain ⟨y_13,hy_14,hc_9⟩:=bind_some hc_9
   refine h_idxa (enc:=(eL Log_.enc)) (xs:=([a_1,b_2]:List (List Log_))) un51 sz26 ag26 rfl rfl rfl rfl hy_14 (λ_=>rfl) (.inr rfl) (vL Log_.enc y_13) rfl wz (aa (vL Log_.enc y_13) (af (aj (aa (vL Log_.enc y_13) ?_))))
   obtain ⟨r_15,hr_16,hc_9⟩:=bind_some hc_9
   refine aG (mH hr_16) rfl hb25 rfl rfl rfl rfl wz (aa (vI r_15) (af (aj (aa (vI r_15) (aa (vB (r_15 != 0)) (af ?_))))))
   rcases ah hc_9 with⟨hc_17,hc_9⟩|⟨hc_17,hc_9⟩
   ·refine aB rfl hc_17 (aj (aa (vI r_15) (aa .nil (aa (vI r_15) (af ?_)))))
    obtain rfl:=ae hc_9
    obtain rfl:=ae hL_10
    obtain rfl:=ae hF
    exact aN (bz [.nil,(vI r_15)] ⟨rfl,⟨rfl,trivial⟩⟩)
   ·refine aA rfl hc_17 (ay (av (lw (qP hD_6 hn_7) wz rfl (aa (vI ((k_3+1:Nat):Int)) (af ?_)))))
    obtain rfl:=ae hc_9
    exact aK (k_3+1,l_4,()) ⟨hL_10,bR hD_6⟩ (ls_ _) rfl (aC rfl)
 ·rintro s_8 ho_ sl_ H_ hp_ hq_
  subst ho_
  refine aJ _ hp_ hq_ (aj (aa (vL Log_.enc a_1) (aa (vL Log_.enc b_2) (kL (([a_1,b_2]:List (List Log_)).map (eL Log_.enc)) es67 ez67 rfl rfl rfl rfl rfl wz ?_))))
  obtain ⟨r_18,hr_19,hF⟩:=bind_some hF
  refine yE [] (jP hr_19) rfl hb26 rfl (by kernel_rfl) (by kernel_rfl) (by kernel_rfl) (by kernel_rfl) (by kernel_rfl) rfl (by decide) (by kernel_rfl) wz ([]:Hp) (λ_=>by kernel_rfl) (λn_21=>aa (gV n_21 6 r_18) (af (aj (aa (gV n_21 6 r_18) ?_))))
  obtain ⟨r_22,hr_23,hF⟩:=bind_some hF
  obtain ⟨_,hs_24,hF⟩:=bind_some hF
  replace hs_24:=bN hs_24
  refine bX 0 [] 0 0 il ft (lc hr_23) rfl hb27 rfl rfl rfl (by kernel_rfl) rfl (.inl rfl) rfl (by kernel_rfl) (by kernel_rfl) (by kernel_rfl) (by kernel_rfl) rfl (by decide) (by kernel_rfl) bM (jb hs_24) wz ([(n_21,gB 6 Log_.enc r_22)]:Hp) (by kernel_rfl) (aF (v':=(gV n_21 6 r_22)) 26 rfl (gX hs_24.symm) (aF (v':=(gV n_21 6 r_22)) 27 rfl (gX hs_24.symm) (aF (v':=(gV n_21 6 r_22)) 9 rfl (gX hs_24.symm) (af (aj (aa (gV n_21 6 r_22) ?_))))))
  obtain ⟨r_25,hr_26,hF⟩:=bind_some hF
  refine bX 0 [] 0 0 il ft (jL hr_26) rfl hb29 rfl rfl rfl (by kernel_rfl) rfl (.inl rfl) rfl (by kernel_rfl) (by kernel_rfl) (by kernel_rfl) (by kernel_rfl) rfl (by decide) (by kernel_rfl) vz (λ_=>rfl) wz ([(n_21,none)]:Hp) (by kernel_rfl) (aa (vL Log_.enc r_25) (af (au (aj (aa (vI 1) (af ?_))))))
  obtain ⟨o_35,hj_36,hF⟩:=bind_some hF
  obtain ⟨nq_46,hj_36⟩:=aP hj_36
  refine aU (λ(s_32:Int)=>[(9,(vL Log_.enc r_25))]) (λ(s_32:Int)=>[(n_21,none)]) (λ(k_27:Nat)=>(λ(s_32:Int)=>[(9,(vL Log_.enc r_25)),(10,(vI s_32))])) (λs=>jw r_25 s) o_35 nq_46 1 hj_36 rfl (aC rfl) ?_ ?_
  ·rintro ⟨k_27,s_32⟩ hL_34
   dsimp only at hL_34
   cases k_27 with
   | zero=>cases hL_34
   | succ k_27 =>
    obtain ⟨c_,hc_33,hL_34⟩:=bind_some hL_34
    unfold jw at hc_33
    refine au (aj (aa (vI s_32) (aa (vL Log_.enc r_25) (iT lK rfl wz (aa (vB (decide (s_32<(r_25.length:Int)))) (af ?_))))))
    rcases ah hc_33 with⟨hc_37,hc_33⟩|⟨hc_37,hc_33⟩
    ·refine aB rfl hc_37 (ay (au (aI (au (aQ (aa (vL Log_.enc r_25) (aa (vI s_32) (aa (vI (w64 (s_32-1))) ?_))))))))
     obtain ⟨y_38,hy_39,hc_33⟩:=bind_some hc_33
     refine jQ bg rfl rfl hy_39 rfl wz (fO bf bL rfl (.d (.agg (Log_.enc y_38))) rfl wz (aa (vL Log_.enc r_25) (aa (vI s_32) ?_)))
     obtain ⟨y_40,hy_41,hc_33⟩:=bind_some hc_33
     refine jQ bg rfl rfl hy_41 rfl wz (fO bf bL rfl (.d (.agg (Log_.enc y_40))) rfl wz ?_)
     obtain ⟨r_42,hr_43,hc_33⟩:=bind_some hc_33
     refine aG (bC hr_43) rfl uU rfl rfl rfl rfl wz (aa (vB (r_42==0)) (af ?_))
     rcases ah hc_33 with⟨hc_44,hc_33⟩|⟨hc_44,hc_33⟩
     ·refine aB rfl hc_44 (aj (aa .nil (aa (vI 13) (af ?_))))
      obtain rfl:=ae hc_33
      obtain rfl:=ae hL_34
      obtain rfl:=ae hF
      exact aN (bz [.nil,(vI 13)] ⟨rfl,⟨rfl,trivial⟩⟩)
     ·refine aA rfl hc_44 (ay (av (aa (vI s_32) (aa (vI (w64 (s_32+1))) (aa (vI (w64 (s_32+1))) (af ?_))))))
      obtain rfl:=ae hc_33
      exact aK (k_27,(w64 (s_32+1))) hL_34 (ls_ _) rfl (aC rfl)
    ·refine aA rfl hc_37 (aV ?_)
     obtain rfl:=ae hc_33
     obtain rfl:=ae hL_34
     exact aX (s_32) rfl rfl (aC rfl)
  ·rintro s_32 ho_ sl_ H_ hp_ hq_
   subst ho_
   refine aJ _ hp_ hq_ (au (aj (aa (vL Log_.enc r_25) (iT lK rfl wz (aa (vB (decide ((r_25.length:Int)>2000))) (af ?_))))))
   rcases ah hF with⟨hc_45,hF⟩|⟨hc_45,hF⟩
   ·refine aB rfl hc_45 (aj (aa .nil (aa (vI 2) (af ?_))))
    obtain rfl:=ae hF
    exact aN (bz [.nil,(vI 2)] ⟨rfl,⟨rfl,trivial⟩⟩)
   ·refine aA rfl hc_45 (ay (aj (aa (vL Log_.enc r_25) (aa (vL Log_.enc r_25) (aa (vI 0) (af ?_))))))
    obtain rfl:=ae hF
    exact aN (bz [(vL Log_.enc r_25),(vI 0)] ⟨rfl,⟨rfl,trivial⟩⟩)
theorem Az {l_1:Log_} {r:ByteArray} (hF:qb l_1=some r) :
  FnM Tryz.prog 45 [(.d (.agg (Log_.enc l_1)))] [] (vS r) []:=by
 refine FnM.of_wH ⟨Tryz.prog,24,[],[]⟩ rfl Tryz.func45 rfl rfl (lb_ rfl) (by kernel_rfl) ?_
 unfold qb at hF
 refine aj (q8 0 (.inl rfl) (Log_.v l_1) rfl rfl wz (λn_2=>aa (vS (⟨#[]⟩:ByteArray)) (af (au (aQ (bD kv rfl 0 rfl wz (bE 1 0 (.inr (by kernel_rfl)) (λ_ _ ag=>trivial) sz9 ag9 rfl rfl (vS l_1.Player) rfl wz ?_)))))))
 obtain ⟨s_3,hz_4,hF⟩:=bind_some hF
 refine nL rfl rfl hz_4 wz (bD wV rfl 1 rfl wz (bE 4 0 (.inr (by kernel_rfl)) (λ_ _ ag=>⟨.inl ⟨rfl,rfl⟩,trivial⟩) sz9 ag9 rfl rfl (vS l_1.Item) rfl wz ?_))
 obtain ⟨s_5,hz_6,hF⟩:=bind_some hF
 refine nL rfl rfl hz_6 wz ?_
 obtain ⟨s_7,hz_8,hF⟩:=bind_some hF
 refine nL rfl rfl hz_8 wz (bD kH rfl 2 rfl wz (bE 8 0 (.inr (by kernel_rfl)) (λ_ _ ag=>⟨.inl ⟨rfl,rfl⟩,⟨.inl ⟨rfl,rfl⟩,trivial⟩⟩) sz3 ag3 rfl rfl (vI l_1.No) rfl wz ?_))
 obtain ⟨r_9,hr_10,hF⟩:=bind_some hF
 refine aG (mD hr_10) rfl hb62 rfl rfl rfl rfl wz ?_
 obtain ⟨s_11,hz_12,hF⟩:=bind_some hF
 refine nL rfl rfl hz_12 wz ?_
 obtain ⟨s_13,hz_14,hF⟩:=bind_some hF
 refine nL rfl rfl hz_14 wz (bD zT rfl 3 rfl wz (bE 13 0 (.inr (by kernel_rfl)) (λ_ _ ag=>⟨.inl ⟨rfl,rfl⟩,⟨.inl ⟨rfl,rfl⟩,⟨.inl ⟨rfl,rfl⟩,trivial⟩⟩⟩) sz3 ag3 rfl rfl (vI l_1.Clock) rfl wz ?_))
 obtain ⟨r_15,hr_16,hF⟩:=bind_some hF
 refine aG (mD hr_16) rfl hb62 rfl rfl rfl rfl wz ?_
 obtain ⟨s_17,hz_18,hF⟩:=bind_some hF
 refine nL rfl rfl hz_18 wz ?_
 obtain ⟨s_19,hz_20,hF⟩:=bind_some hF
 refine nL rfl rfl hz_20 wz (bD wS rfl 4 rfl wz (bE 18 0 (.inr (by kernel_rfl)) (λ_ _ ag=>⟨.inl ⟨rfl,rfl⟩,⟨.inl ⟨rfl,rfl⟩,⟨.inl ⟨rfl,rfl⟩,⟨.inl ⟨rfl,rfl⟩,trivial⟩⟩⟩⟩) sz3 ag3 rfl rfl (vI l_1.Long) rfl wz ?_))
 obtain ⟨r_21,hr_22,hF⟩:=bind_some hF
 refine aG (mD hr_22) rfl hb62 rfl rfl rfl rfl wz ?_
 obtain ⟨s_23,hz_24,hF⟩:=bind_some hF
 refine nL rfl rfl hz_24 wz (aa (vS s_23) (af ?_))
 obtain rfl:=ae hF
 exact aN (bz [(vS s_23)] ⟨rfl,trivial⟩)
end Go.Proofs.YtdpginbnipklcaaGreatDoor.Law

