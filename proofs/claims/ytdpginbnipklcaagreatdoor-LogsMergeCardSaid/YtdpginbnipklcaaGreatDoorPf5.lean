/-
 The machine computes these plain functions (written by a program of ours).
-/
import Derived.Test.YtdpginbnipklcaaGreatDoorFacts
import Derived.Test.YtdpginbnipklcaaGreatDoorDefs
import Derived.Test.YtdpginbnipklcaaGreatDoorPf4
open Go Go.Eng Go.Proofs
namespace Go.Proofs.YtdpginbnipklcaaGreatDoor.Law
set_option maxRecDepth 100000
set_option linter.unusedVariables false
set_option maxHeartbeats 1000000
theorem jl {data_1:(List Log_)} {a_2:Int} {m_3:Int} {b_4:Int} {r:(List Log_)} (hF:dF data_1 a_2 m_3 b_4=some r) :
  FnM Tryz.prog 57 [(dV (ak 0) 6 data_1),(vI a_2),(vI m_3),(vI b_4),(.fn 33 [])] (([]:List Box)++gI 6 Log_.enc data_1) (.tup []) (([]:List Box).map some++gT data_1 (gB 6 Log_.enc r)):=by
 refine FnM.of_wHv ⟨Tryz.prog,220,[],[]⟩ rfl Tryz.func57 rfl rfl (lb_ rfl) (by kernel_rfl) ?_
 unfold dF at hF
 refine au (aj (aa (vI m_3) (aa (vI a_2) (aa (vI (w64 (m_3-a_2))) (aa (vB ((w64 (m_3-a_2))==1)) (af ?_))))))
 rcases ah hF with⟨hc_6,hF⟩|⟨hc_6,hF⟩
 ·refine aB rfl hc_6 (aj (aa (vI m_3) (aa (vI m_3) (af (aj (aa (vI b_4) (aa (vI b_4) (af (au ?_)))))))))
  obtain ⟨o_15,hj_16,hF⟩:=bind_some hF
  obtain ⟨nq_53,hj_16⟩:=aP hj_16
  refine aU (λ(s_12:Int×Int)=>[(0,(dV (ak 0) 6 data_1)),(1,(vI a_2)),(10,(vI s_12.1))]) (λ(s_12:Int×Int)=>[((ak 0),gB 6 Log_.enc data_1)]) (λ(k_7:Nat)=>(λ(s_12:Int×Int)=>[(0,(dV (ak 0) 6 data_1)),(1,(vI a_2)),(4,(.fn 33 [])),(10,(vI s_12.1)),(11,(vI s_12.2))])) (λs=>fI data_1 a_2 s) o_15 nq_53 (m_3,b_4) hj_16 rfl (aC rfl) ?_ ?_
  ·rintro ⟨k_7,s_12⟩ hL_14
   dsimp only at hL_14
   cases k_7 with
   | zero=>cases hL_14
   | succ k_7 =>
    obtain ⟨c_,hc_13,hL_14⟩:=bind_some hL_14
    unfold fI at hc_13
    refine au (aj (aa (vI s_12.1) (aa (vI s_12.2) (aa (vB (decide (s_12.1<s_12.2))) (af ?_)))))
    rcases ah hc_13 with⟨hc_17,hc_13⟩|⟨hc_17,hc_13⟩
    ·refine aB rfl hc_17 (ay (aI (aj (aa (vI s_12.1) (aa (vI s_12.2) (aa (vI (w64 (s_12.1+s_12.2))) (bB un3 ib rfl wz ?_)))))))
     obtain ⟨q_18,hz_19,hc_13⟩:=bind_some hc_13
     refine jI rfl rfl hz_19 wz (bB ib un3 rfl wz (aa (vI (w64 q_18)) (af (au (aQ (aa (.fn 33 []) (aa (dV (ak 0) 6 data_1) (aa (vI (w64 q_18)) ?_))))))))
     obtain ⟨_,hi_20,hc_13⟩:=bind_some hc_13
     refine aO bg rfl rfl (aW hi_20) (aM hi_20) wz ?_
     obtain ⟨e_21,hy_22,hc_13⟩:=bind_some hc_13
     refine aZ 4 0 (.inr (by kernel_rfl)) (λ_ _ ag=>trivial) bf bL rfl rfl hy_22 (.d (.agg (Log_.enc e_21))) rfl wz (aa (dV (ak 0) 6 data_1) (aa (vI a_2) ?_))
     obtain ⟨_,hi_23,hc_13⟩:=bind_some hc_13
     refine aO bg rfl rfl (aW hi_23) (aM hi_23) wz ?_
     obtain ⟨e_24,hy_25,hc_13⟩:=bind_some hc_13
     refine aZ 8 0 (.inr (by kernel_rfl)) (λ_ _ ag=>⟨.inl ⟨rfl,rfl⟩,trivial⟩) bf bL rfl rfl hy_25 (.d (.agg (Log_.enc e_24))) rfl wz ?_
     obtain ⟨r_26,hr_27,hc_13⟩:=bind_some hc_13
     refine aG (bW hr_27) rfl uY rfl rfl rfl rfl wz (aa (vB (decide (r_26<0))) (af ?_))
     rcases ah hc_13 with⟨hc_28,hc_13⟩|⟨hc_28,hc_13⟩
     ·refine aB rfl hc_28 (av (aa (vI (w64 q_18)) (aa (vI (w64 ((w64 q_18)+1))) (aa (vI (w64 ((w64 q_18)+1))) (af ?_)))))
      obtain rfl:=ae hc_13
      exact aK (k_7,((w64 ((w64 q_18)+1)),s_12.2)) hL_14 (ls_ _) rfl (aC rfl)
     ·refine aA rfl hc_28 (av (aa (vI (w64 q_18)) (aa (vI (w64 q_18)) (af ?_))))
      obtain rfl:=ae hc_13
      exact aK (k_7,(s_12.1,(w64 q_18))) hL_14 (ls_ _) rfl (aC rfl)
    ·refine aA rfl hc_17 (aV ?_)
     obtain rfl:=ae hc_13
     obtain rfl:=ae hL_14
     exact aX ((s_12.1,s_12.2)) rfl rfl (aC rfl)
  ·rintro s_12 ho_ sl_ H_ hp_ hq_
   subst ho_
   refine aJ _ hp_ hq_ (au (aj (aa (vI a_2) (aa (vI a_2) (af ?_)))))
   obtain ⟨o_37,hj_38,hF⟩:=bind_some hF
   obtain ⟨nq_52,hj_38⟩:=aP hj_38
   refine aU (λ(s_34:(List Log_)×Int)=>[]) (λ(s_34:(List Log_)×Int)=>[((ak 0),gB 6 Log_.enc s_34.1)]) (λ(k_29:Nat)=>(λ(s_34:(List Log_)×Int)=>[(0,(dV (ak 0) 6 s_34.1)),(10,(vI s_12.1)),(13,(vI s_34.2))])) (λs=>eT s_12 s) o_37 nq_52 (data_1,a_2) hj_38 rfl (aC rfl) ?_ ?_
   ·rintro ⟨k_29,s_34⟩ hL_36
    dsimp only at hL_36
    cases k_29 with
    | zero=>cases hL_36
    | succ k_29 =>
     obtain ⟨c_,hc_35,hL_36⟩:=bind_some hL_36
     unfold eT at hc_35
     refine au (aj (aa (vI s_34.2) (aa (vI s_12.1) (aa (vI (w64 (s_12.1-1))) (aa (vB (decide (s_34.2<(w64 (s_12.1-1))))) (af ?_))))))
     rcases ah hc_35 with⟨hc_39,hc_35⟩|⟨hc_39,hc_35⟩
     ·refine aB rfl hc_39 (ay (au (aI (aQ (aa (dV (ak 0) 6 s_34.1) (aa (vI s_34.2) (aa (dV (ak 0) 6 s_34.1) (aa (vI s_34.2) (aa (vI (w64 (s_34.2+1))) (aa (dV (ak 0) 6 s_34.1) (aa (vI s_34.2) (aa (vI (w64 (s_34.2+1))) ?_))))))))))))
      obtain ⟨_,hi_40,hc_35⟩:=bind_some hc_35
      refine aO bg rfl rfl (aW hi_40) (aM hi_40) wz ?_
      obtain ⟨e_41,hy_42,hc_35⟩:=bind_some hc_35
      refine aZ 9 0 (.inr (by kernel_rfl)) (λ_ _ ag=>trivial) bf bL rfl rfl hy_42 (.d (.agg (Log_.enc e_41))) rfl wz (aa (dV (ak 0) 6 s_34.1) (aa (vI s_34.2) ?_))
      obtain ⟨_,hi_43,hc_35⟩:=bind_some hc_35
      refine aO bg rfl rfl (aW hi_43) (aM hi_43) wz ?_
      obtain ⟨e_44,hy_45,hc_35⟩:=bind_some hc_35
      refine aZ 13 0 (.inr (by kernel_rfl)) (λ_ _ ag=>⟨.inl ⟨rfl,rfl⟩,trivial⟩) bf bL rfl rfl hy_45 (.d (.agg (Log_.enc e_44))) rfl wz ?_
      obtain ⟨_,hi_46,hc_35⟩:=bind_some hc_35
      refine aO bg rfl rfl (aW hi_46) (aM hi_46) wz ?_
      obtain ⟨e_47,hy_48,hc_35⟩:=bind_some hc_35
      refine cO 15 (.inr (by kernel_rfl)) (λ_ _ ag=>⟨.inr (.inr (by kernel_rfl)),⟨.inr (.inr (by kernel_rfl)),trivial⟩⟩) 0 bf rfl rfl hy_48 e_41 rfl wz (aF (v':=(dV (ak 0) 6 (s_34.1.set (0+(s_34.2).toNat) e_41))) 0 rfl (ax (by simp)) (aF (v':=(dV (ak 0) 6 (s_34.1.set (0+(s_34.2).toNat) e_41))) 61 rfl (ax (by simp)) (aF (v':=(dV (ak 0) 6 (s_34.1.set (0+(s_34.2).toNat) e_41))) 63 rfl (ax (by simp)) (aF (v':=(dV (ak 0) 6 (s_34.1.set (0+(s_34.2).toNat) e_41))) 66 rfl (ax (by simp)) (aF (v':=(dV (ak 0) 6 (s_34.1.set (0+(s_34.2).toNat) e_41))) 71 rfl (ax (by simp)) ?_)))))
      obtain ⟨_,hi_49,hc_35⟩:=bind_some hc_35
      refine aO bg rfl rfl (aW hi_49) (aM hi_49) wz ?_
      obtain ⟨e_50,hy_51,hc_35⟩:=bind_some hc_35
      refine cO 17 (.inr (by kernel_rfl)) (λ_ _ ag=>⟨.inr (.inr (by kernel_rfl)),⟨.inr (.inr (by kernel_rfl)),⟨.inr (.inr (by kernel_rfl)),trivial⟩⟩⟩) 0 bf rfl rfl hy_51 e_44 rfl wz (aF (v':=(dV (ak 0) 6 ((s_34.1.set (0+(s_34.2).toNat) e_41).set (0+((w64 (s_34.2+1))).toNat) e_44))) 0 rfl (ax (by simp)) (aF (v':=(dV (ak 0) 6 ((s_34.1.set (0+(s_34.2).toNat) e_41).set (0+((w64 (s_34.2+1))).toNat) e_44))) 61 rfl (ax (by simp)) (aF (v':=(dV (ak 0) 6 ((s_34.1.set (0+(s_34.2).toNat) e_41).set (0+((w64 (s_34.2+1))).toNat) e_44))) 63 rfl (ax (by simp)) (aF (v':=(dV (ak 0) 6 ((s_34.1.set (0+(s_34.2).toNat) e_41).set (0+((w64 (s_34.2+1))).toNat) e_44))) 66 rfl (ax (by simp)) (aF (v':=(dV (ak 0) 6 ((s_34.1.set (0+(s_34.2).toNat) e_41).set (0+((w64 (s_34.2+1))).toNat) e_44))) 71 rfl (ax (by simp)) (af (av (aa (vI s_34.2) (aa (vI (w64 (s_34.2+1))) (aa (vI (w64 (s_34.2+1))) (af ?_)))))))))))
      obtain rfl:=ae hc_35
      exact aK (k_29,(((s_34.1.set (0+(s_34.2).toNat) e_41).set (0+((w64 (s_34.2+1))).toNat) e_44),(w64 (s_34.2+1)))) hL_36 (ls_ _) rfl (aC rfl)
     ·refine aA rfl hc_39 (aV ?_)
      obtain rfl:=ae hc_35
      obtain rfl:=ae hL_36
      exact aX ((s_34.1,s_34.2)) rfl rfl (aC rfl)
   ·rintro s_34 ho_ sl_ H_ hp_ hq_
    subst ho_
    refine aJ _ hp_ hq_ ?_
    obtain rfl:=ae hF
    exact aN (jO (bs:=([]:List Box)) (os:=([]:List Box)) (xs:=data_1) (o:=gB 6 Log_.enc s_34.1) (.inr rfl) [] trivial rfl rfl rfl rfl rfl (by kernel_rfl) bM rfl)
 ·refine aA rfl hc_6 (ay (au (aj (aa (vI b_4) (aa (vI m_3) (aa (vI (w64 (b_4-m_3))) (aa (vB ((w64 (b_4-m_3))==1)) (af ?_))))))))
  rcases ah hF with⟨hc_54,hF⟩|⟨hc_54,hF⟩
  ·refine aB rfl hc_54 (aj (aa (vI a_2) (aa (vI a_2) (af (aj (aa (vI m_3) (aa (vI m_3) (af (au ?_)))))))))
   obtain ⟨o_63,hj_64,hF⟩:=bind_some hF
   obtain ⟨nq_101,hj_64⟩:=aP hj_64
   refine aU (λ(s_60:Int×Int)=>[(0,(dV (ak 0) 6 data_1)),(2,(vI m_3)),(14,(vI s_60.1))]) (λ(s_60:Int×Int)=>[((ak 0),gB 6 Log_.enc data_1)]) (λ(k_55:Nat)=>(λ(s_60:Int×Int)=>[(0,(dV (ak 0) 6 data_1)),(2,(vI m_3)),(4,(.fn 33 [])),(14,(vI s_60.1)),(15,(vI s_60.2))])) (λs=>eO m_3 data_1 s) o_63 nq_101 (a_2,m_3) hj_64 rfl (aC rfl) ?_ ?_
   ·rintro ⟨k_55,s_60⟩ hL_62
    dsimp only at hL_62
    cases k_55 with
    | zero=>cases hL_62
    | succ k_55 =>
     obtain ⟨c_,hc_61,hL_62⟩:=bind_some hL_62
     unfold eO at hc_61
     refine au (aj (aa (vI s_60.1) (aa (vI s_60.2) (aa (vB (decide (s_60.1<s_60.2))) (af ?_)))))
     rcases ah hc_61 with⟨hc_65,hc_61⟩|⟨hc_65,hc_61⟩
     ·refine aB rfl hc_65 (ay (aI (aj (aa (vI s_60.1) (aa (vI s_60.2) (aa (vI (w64 (s_60.1+s_60.2))) (bB un3 ib rfl wz ?_)))))))
      obtain ⟨q_66,hz_67,hc_61⟩:=bind_some hc_61
      refine jI rfl rfl hz_67 wz (bB ib un3 rfl wz (aa (vI (w64 q_66)) (af (au (aQ (aa (.fn 33 []) (aa (dV (ak 0) 6 data_1) (aa (vI m_3) ?_))))))))
      obtain ⟨_,hi_68,hc_61⟩:=bind_some hc_61
      refine aO bg rfl rfl (aW hi_68) (aM hi_68) wz ?_
      obtain ⟨e_69,hy_70,hc_61⟩:=bind_some hc_61
      refine aZ 4 0 (.inr (by kernel_rfl)) (λ_ _ ag=>trivial) bf bL rfl rfl hy_70 (.d (.agg (Log_.enc e_69))) rfl wz (aa (dV (ak 0) 6 data_1) (aa (vI (w64 q_66)) ?_))
      obtain ⟨_,hi_71,hc_61⟩:=bind_some hc_61
      refine aO bg rfl rfl (aW hi_71) (aM hi_71) wz ?_
      obtain ⟨e_72,hy_73,hc_61⟩:=bind_some hc_61
      refine aZ 8 0 (.inr (by kernel_rfl)) (λ_ _ ag=>⟨.inl ⟨rfl,rfl⟩,trivial⟩) bf bL rfl rfl hy_73 (.d (.agg (Log_.enc e_72))) rfl wz ?_
      obtain ⟨r_74,hr_75,hc_61⟩:=bind_some hc_61
      refine aG (bW hr_75) rfl uY rfl rfl rfl rfl wz (aa (vB (decide (r_74<0))) (aa (vB (!(decide (r_74<0)))) (af ?_)))
      rcases ah hc_61 with⟨hc_76,hc_61⟩|⟨hc_76,hc_61⟩
      ·refine aB rfl hc_76 (av (aa (vI (w64 q_66)) (aa (vI (w64 ((w64 q_66)+1))) (aa (vI (w64 ((w64 q_66)+1))) (af ?_)))))
       obtain rfl:=ae hc_61
       exact aK (k_55,((w64 ((w64 q_66)+1)),s_60.2)) hL_62 (ls_ _) rfl (aC rfl)
      ·refine aA rfl hc_76 (av (aa (vI (w64 q_66)) (aa (vI (w64 q_66)) (af ?_))))
       obtain rfl:=ae hc_61
       exact aK (k_55,(s_60.1,(w64 q_66))) hL_62 (ls_ _) rfl (aC rfl)
     ·refine aA rfl hc_65 (aV ?_)
      obtain rfl:=ae hc_61
      obtain rfl:=ae hL_62
      exact aX ((s_60.1,s_60.2)) rfl rfl (aC rfl)
   ·rintro s_60 ho_ sl_ H_ hp_ hq_
    subst ho_
    refine aJ _ hp_ hq_ (au (aj (aa (vI m_3) (aa (vI m_3) (af ?_)))))
    obtain ⟨o_85,hj_86,hF⟩:=bind_some hF
    obtain ⟨nq_100,hj_86⟩:=aP hj_86
    refine aU (λ(s_82:(List Log_)×Int)=>[]) (λ(s_82:(List Log_)×Int)=>[((ak 0),gB 6 Log_.enc s_82.1)]) (λ(k_77:Nat)=>(λ(s_82:(List Log_)×Int)=>[(0,(dV (ak 0) 6 s_82.1)),(14,(vI s_60.1)),(17,(vI s_82.2))])) (λs=>fw s_60 s) o_85 nq_100 (data_1,m_3) hj_86 rfl (aC rfl) ?_ ?_
    ·rintro ⟨k_77,s_82⟩ hL_84
     dsimp only at hL_84
     cases k_77 with
     | zero=>cases hL_84
     | succ k_77 =>
      obtain ⟨c_,hc_83,hL_84⟩:=bind_some hL_84
      unfold fw at hc_83
      refine au (aj (aa (vI s_82.2) (aa (vI s_60.1) (aa (vB (decide (s_82.2>s_60.1))) (af ?_)))))
      rcases ah hc_83 with⟨hc_87,hc_83⟩|⟨hc_87,hc_83⟩
      ·refine aB rfl hc_87 (ay (au (aI (aQ (aa (dV (ak 0) 6 s_82.1) (aa (vI s_82.2) (aa (dV (ak 0) 6 s_82.1) (aa (vI s_82.2) (aa (vI (w64 (s_82.2-1))) (aa (dV (ak 0) 6 s_82.1) (aa (vI s_82.2) (aa (vI (w64 (s_82.2-1))) ?_))))))))))))
       obtain ⟨_,hi_88,hc_83⟩:=bind_some hc_83
       refine aO bg rfl rfl (aW hi_88) (aM hi_88) wz ?_
       obtain ⟨e_89,hy_90,hc_83⟩:=bind_some hc_83
       refine aZ 9 0 (.inr (by kernel_rfl)) (λ_ _ ag=>trivial) bf bL rfl rfl hy_90 (.d (.agg (Log_.enc e_89))) rfl wz (aa (dV (ak 0) 6 s_82.1) (aa (vI s_82.2) ?_))
       obtain ⟨_,hi_91,hc_83⟩:=bind_some hc_83
       refine aO bg rfl rfl (aW hi_91) (aM hi_91) wz ?_
       obtain ⟨e_92,hy_93,hc_83⟩:=bind_some hc_83
       refine aZ 13 0 (.inr (by kernel_rfl)) (λ_ _ ag=>⟨.inl ⟨rfl,rfl⟩,trivial⟩) bf bL rfl rfl hy_93 (.d (.agg (Log_.enc e_92))) rfl wz ?_
       obtain ⟨_,hi_94,hc_83⟩:=bind_some hc_83
       refine aO bg rfl rfl (aW hi_94) (aM hi_94) wz ?_
       obtain ⟨e_95,hy_96,hc_83⟩:=bind_some hc_83
       refine cO 15 (.inr (by kernel_rfl)) (λ_ _ ag=>⟨.inr (.inr (by kernel_rfl)),⟨.inr (.inr (by kernel_rfl)),trivial⟩⟩) 0 bf rfl rfl hy_96 e_89 rfl wz (aF (v':=(dV (ak 0) 6 (s_82.1.set (0+(s_82.2).toNat) e_89))) 0 rfl (ax (by simp)) (aF (v':=(dV (ak 0) 6 (s_82.1.set (0+(s_82.2).toNat) e_89))) 113 rfl (ax (by simp)) (aF (v':=(dV (ak 0) 6 (s_82.1.set (0+(s_82.2).toNat) e_89))) 115 rfl (ax (by simp)) (aF (v':=(dV (ak 0) 6 (s_82.1.set (0+(s_82.2).toNat) e_89))) 118 rfl (ax (by simp)) (aF (v':=(dV (ak 0) 6 (s_82.1.set (0+(s_82.2).toNat) e_89))) 123 rfl (ax (by simp)) ?_)))))
       obtain ⟨_,hi_97,hc_83⟩:=bind_some hc_83
       refine aO bg rfl rfl (aW hi_97) (aM hi_97) wz ?_
       obtain ⟨e_98,hy_99,hc_83⟩:=bind_some hc_83
       refine cO 17 (.inr (by kernel_rfl)) (λ_ _ ag=>⟨.inr (.inr (by kernel_rfl)),⟨.inr (.inr (by kernel_rfl)),⟨.inr (.inr (by kernel_rfl)),trivial⟩⟩⟩) 0 bf rfl rfl hy_99 e_92 rfl wz (aF (v':=(dV (ak 0) 6 ((s_82.1.set (0+(s_82.2).toNat) e_89).set (0+((w64 (s_82.2-1))).toNat) e_92))) 0 rfl (ax (by simp)) (aF (v':=(dV (ak 0) 6 ((s_82.1.set (0+(s_82.2).toNat) e_89).set (0+((w64 (s_82.2-1))).toNat) e_92))) 113 rfl (ax (by simp)) (aF (v':=(dV (ak 0) 6 ((s_82.1.set (0+(s_82.2).toNat) e_89).set (0+((w64 (s_82.2-1))).toNat) e_92))) 115 rfl (ax (by simp)) (aF (v':=(dV (ak 0) 6 ((s_82.1.set (0+(s_82.2).toNat) e_89).set (0+((w64 (s_82.2-1))).toNat) e_92))) 118 rfl (ax (by simp)) (aF (v':=(dV (ak 0) 6 ((s_82.1.set (0+(s_82.2).toNat) e_89).set (0+((w64 (s_82.2-1))).toNat) e_92))) 123 rfl (ax (by simp)) (af (av (aa (vI s_82.2) (aa (vI (w64 (s_82.2-1))) (aa (vI (w64 (s_82.2-1))) (af ?_)))))))))))
       obtain rfl:=ae hc_83
       exact aK (k_77,(((s_82.1.set (0+(s_82.2).toNat) e_89).set (0+((w64 (s_82.2-1))).toNat) e_92),(w64 (s_82.2-1)))) hL_84 (ls_ _) rfl (aC rfl)
      ·refine aA rfl hc_87 (aV ?_)
       obtain rfl:=ae hc_83
       obtain rfl:=ae hL_84
       exact aX ((s_82.1,s_82.2)) rfl rfl (aC rfl)
    ·rintro s_82 ho_ sl_ H_ hp_ hq_
     subst ho_
     refine aJ _ hp_ hq_ ?_
     obtain rfl:=ae hF
     exact aN (jO (bs:=([]:List Box)) (os:=([]:List Box)) (xs:=data_1) (o:=gB 6 Log_.enc s_82.1) (.inr rfl) [] trivial rfl rfl rfl rfl rfl (by kernel_rfl) bM rfl)
  ·refine aA rfl hc_54 (ay (aj (aa (vI a_2) (aa (vI b_4) (aa (vI (w64 (a_2+b_4))) (bB un3 ib rfl wz ?_))))))
   obtain ⟨q_102,hz_103,hF⟩:=bind_some hF
   refine jI rfl rfl hz_103 wz (bB ib un3 rfl wz (aa (vI (w64 q_102)) (af (aj (aa (vI (w64 q_102)) (aa (vI m_3) (aa (vI (w64 ((w64 q_102)+m_3))) (aa (vI (w64 ((w64 q_102)+m_3))) (af (aj (aa (vI 0) (aa (vI 0) (af (au (aj (aa (vI m_3) (aa (vI (w64 q_102)) (aa (vB (decide (m_3>(w64 q_102)))) (af ?_)))))))))))))))))))
   obtain ⟨v_104,h_105,hF⟩:=bind_some hF
   refine aH [(0,(dV (ak 0) 6 data_1)),(1,(vI a_2)),(2,(vI m_3)),(3,(vI b_4)),(4,(.fn 33 [])),(18,(vI (w64 q_102))),(19,(vI (w64 ((w64 q_102)+m_3)))),(20,(vI v_104.1)),(21,(vI v_104.2))] [((ak 0),gB 6 Log_.enc data_1)] ?_ ?_
   ·rcases ah h_105 with⟨hc_106,h_105⟩|⟨hc_106,h_105⟩
    ·refine aB rfl hc_106 (aj (aa (vI (w64 ((w64 q_102)+m_3))) (aa (vI b_4) (aa (vI (w64 ((w64 ((w64 q_102)+m_3))-b_4))) (aa (vI (w64 ((w64 ((w64 q_102)+m_3))-b_4))) (af (av (aa (vI (w64 q_102)) (aa (vI (w64 q_102)) (af ?_))))))))))
     obtain rfl:=ae h_105
     exact cu
    ·refine aA rfl hc_106 (aj (aa (vI a_2) (aa (vI a_2) (af (av (aa (vI m_3) (aa (vI m_3) (af ?_))))))))
     obtain rfl:=ae h_105
     exact cu
   ·rintro ⟨⟩ _ sl_ H_ hp_ hq_
    refine aJ _ hp_ hq_ (aj (aa (vI (w64 ((w64 q_102)+m_3))) (aa (vI (w64 ((w64 ((w64 q_102)+m_3))-1))) (aa (vI (w64 ((w64 ((w64 q_102)+m_3))-1))) (af (au ?_))))))
    obtain ⟨o_115,hj_116,hF⟩:=bind_some hF
    obtain ⟨nq_148,hj_116⟩:=aP hj_116
    refine aU (λ(s_112:Int×Int)=>[(0,(dV (ak 0) 6 data_1)),(1,(vI a_2)),(2,(vI m_3)),(3,(vI b_4)),(4,(.fn 33 [])),(18,(vI (w64 q_102))),(19,(vI (w64 ((w64 q_102)+m_3)))),(20,(vI s_112.1))]) (λ(s_112:Int×Int)=>[((ak 0),gB 6 Log_.enc data_1)]) (λ(k_107:Nat)=>(λ(s_112:Int×Int)=>[(0,(dV (ak 0) 6 data_1)),(1,(vI a_2)),(2,(vI m_3)),(3,(vI b_4)),(4,(.fn 33 [])),(18,(vI (w64 q_102))),(19,(vI (w64 ((w64 q_102)+m_3)))),(20,(vI s_112.1)),(21,(vI s_112.2)),(22,(vI (w64 ((w64 ((w64 q_102)+m_3))-1))))])) (λs=>fB q_102 m_3 data_1 s) o_115 nq_148 (v_104.1,v_104.2) hj_116 rfl (aC rfl) ?_ ?_
    ·rintro ⟨k_107,s_112⟩ hL_114
     dsimp only at hL_114
     cases k_107 with
     | zero=>cases hL_114
     | succ k_107 =>
      obtain ⟨c_,hc_113,hL_114⟩:=bind_some hL_114
      unfold fB at hc_113
      refine au (aj (aa (vI s_112.1) (aa (vI s_112.2) (aa (vB (decide (s_112.1<s_112.2))) (af ?_)))))
      rcases ah hc_113 with⟨hc_117,hc_113⟩|⟨hc_117,hc_113⟩
      ·refine aB rfl hc_117 (ay (aI (aj (aa (vI s_112.1) (aa (vI s_112.2) (aa (vI (w64 (s_112.1+s_112.2))) (bB un3 ib rfl wz ?_)))))))
       obtain ⟨q_118,hz_119,hc_113⟩:=bind_some hc_113
       refine jI rfl rfl hz_119 wz (bB ib un3 rfl wz (aa (vI (w64 q_118)) (af (au (aQ (aa (.fn 33 []) (aa (dV (ak 0) 6 data_1) (aa (vI (w64 ((w64 ((w64 q_102)+m_3))-1))) (aa (vI (w64 q_118)) (aa (vI (w64 ((w64 ((w64 ((w64 q_102)+m_3))-1))-(w64 q_118)))) ?_))))))))))
       obtain ⟨_,hi_120,hc_113⟩:=bind_some hc_113
       refine aO bg rfl rfl (aW hi_120) (aM hi_120) wz ?_
       obtain ⟨e_121,hy_122,hc_113⟩:=bind_some hc_113
       refine aZ 6 0 (.inr (by kernel_rfl)) (λ_ _ ag=>trivial) bf bL rfl rfl hy_122 (.d (.agg (Log_.enc e_121))) rfl wz (aa (dV (ak 0) 6 data_1) (aa (vI (w64 q_118)) ?_))
       obtain ⟨_,hi_123,hc_113⟩:=bind_some hc_113
       refine aO bg rfl rfl (aW hi_123) (aM hi_123) wz ?_
       obtain ⟨e_124,hy_125,hc_113⟩:=bind_some hc_113
       refine aZ 10 0 (.inr (by kernel_rfl)) (λ_ _ ag=>⟨.inl ⟨rfl,rfl⟩,trivial⟩) bf bL rfl rfl hy_125 (.d (.agg (Log_.enc e_124))) rfl wz ?_
       obtain ⟨r_126,hr_127,hc_113⟩:=bind_some hc_113
       refine aG (bW hr_127) rfl uY rfl rfl rfl rfl wz (aa (vB (decide (r_126<0))) (aa (vB (!(decide (r_126<0)))) (af ?_)))
       rcases ah hc_113 with⟨hc_128,hc_113⟩|⟨hc_128,hc_113⟩
       ·refine aB rfl hc_128 (av (aa (vI (w64 q_118)) (aa (vI (w64 ((w64 q_118)+1))) (aa (vI (w64 ((w64 q_118)+1))) (af ?_)))))
        obtain rfl:=ae hc_113
        exact aK (k_107,((w64 ((w64 q_118)+1)),s_112.2)) hL_114 (ls_ _) rfl (aC rfl)
       ·refine aA rfl hc_128 (av (aa (vI (w64 q_118)) (aa (vI (w64 q_118)) (af ?_))))
        obtain rfl:=ae hc_113
        exact aK (k_107,(s_112.1,(w64 q_118))) hL_114 (ls_ _) rfl (aC rfl)
      ·refine aA rfl hc_117 (aV ?_)
       obtain rfl:=ae hc_113
       obtain rfl:=ae hL_114
       exact aX ((s_112.1,s_112.2)) rfl rfl (aC rfl)
    ·rintro s_112 ho_ sl_ H_ hp_ hq_
     subst ho_
     refine aJ _ hp_ hq_ (aj (aa (vI (w64 ((w64 q_102)+m_3))) (aa (vI s_112.1) (aa (vI (w64 ((w64 ((w64 q_102)+m_3))-s_112.1))) (aa (vI (w64 ((w64 ((w64 q_102)+m_3))-s_112.1))) (af (au (au ?_))))))))
     obtain ⟨v_129,h_130,hF⟩:=bind_some hF
     refine aH [(0,(dV (ak 0) 6 data_1)),(1,(vI a_2)),(2,(vI m_3)),(3,(vI b_4)),(4,(.fn 33 [])),(18,(vI (w64 q_102))),(20,(vI s_112.1)),(24,(vI (w64 ((w64 ((w64 q_102)+m_3))-s_112.1)))),(185,(vB v_129))] [((ak 0),gB 6 Log_.enc data_1)] ?_ ?_
     ·refine av (aa (vI s_112.1) (aa (vI m_3) (aa (vB (decide (s_112.1<m_3))) ?_)))
      rcases ah h_130 with⟨hc_131,h_130⟩|⟨hc_131,h_130⟩
      ·refine aD rfl hc_131 wz (aL (vI m_3) wa rfl (aL (vI (w64 ((w64 ((w64 q_102)+m_3))-s_112.1))) wa rfl (aL (vB (decide (m_3<(w64 ((w64 ((w64 q_102)+m_3))-s_112.1))))) wa rfl (aa (vB (decide (m_3<(w64 ((w64 ((w64 q_102)+m_3))-s_112.1))))) (af ?_)))))
       obtain rfl:=ae h_130
       exact cu
      ·refine aD rfl hc_131 wz (ai (ai (ai (aa (vB false) (af ?_)))))
       obtain rfl:=ae h_130
       exact cu
     ·rintro ⟨⟩ _ sl_ H_ hp_ hq_
      refine aJ _ hp_ hq_ ?_
      obtain ⟨v_132,h_133,hF⟩:=bind_some hF
      refine aH [(0,(dV (ak 0) 6 v_132)),(1,(vI a_2)),(3,(vI b_4)),(4,(.fn 33 [])),(18,(vI (w64 q_102))),(20,(vI s_112.1)),(24,(vI (w64 ((w64 ((w64 q_102)+m_3))-s_112.1))))] [((ak 0),gB 6 Log_.enc v_132)] ?_ ?_
      ·rcases ah h_133 with⟨hc_134,h_133⟩|⟨hc_134,h_133⟩
       ·refine aB rfl hc_134 (av (aa (dV (ak 0) 6 data_1) (aa (vI s_112.1) (aa (vI m_3) (aa (vI (w64 ((w64 ((w64 q_102)+m_3))-s_112.1))) (aa (.fn 33 []) ?_))))))
        obtain ⟨r_135,hr_136,h_133⟩:=bind_some h_133
        obtain ⟨_,hs_137,h_133⟩:=bind_some h_133
        replace hs_137:=bN hs_137
        refine bX 0 [] 0 0 il ft (dQ hr_136) rfl Eg rfl rfl rfl (by kernel_rfl) rfl (.inr (.inl rfl)) rfl (by kernel_rfl) (by kernel_rfl) (by kernel_rfl) (by kernel_rfl) rfl (by decide) (by kernel_rfl) bM (jb hs_137) wz ([((ak 0),gB 6 Log_.enc r_135)]:Hp) (by kernel_rfl) (aF (v':=(dV (ak 0) 6 r_135)) 0 rfl (ax hs_137.symm) (aF (v':=(dV (ak 0) 6 r_135)) 186 rfl (ax hs_137.symm) (af ?_)))
        obtain rfl:=ae h_133
        exact cu
       ·refine aA rfl hc_134 (ay ?_)
        obtain rfl:=ae h_133
        exact cu
      ·rintro ⟨⟩ _ sl_ H_ hp_ hq_
       refine aJ _ hp_ hq_ (au (au ?_))
       obtain ⟨v_138,h_139,hF⟩:=bind_some hF
       refine aH [(0,(dV (ak 0) 6 v_132)),(1,(vI a_2)),(3,(vI b_4)),(4,(.fn 33 [])),(18,(vI (w64 q_102))),(20,(vI s_112.1)),(24,(vI (w64 ((w64 ((w64 q_102)+m_3))-s_112.1)))),(199,(vB v_138))] [((ak 0),gB 6 Log_.enc v_132)] ?_ ?_
       ·refine av (aa (vI a_2) (aa (vI s_112.1) (aa (vB (decide (a_2<s_112.1))) ?_)))
        rcases ah h_139 with⟨hc_140,h_139⟩|⟨hc_140,h_139⟩
        ·refine aD rfl hc_140 wz (aL (vI s_112.1) wa rfl (aL (vI (w64 q_102)) wa rfl (aL (vB (decide (s_112.1<(w64 q_102)))) wa rfl (aa (vB (decide (s_112.1<(w64 q_102)))) (af ?_)))))
         obtain rfl:=ae h_139
         exact cu
        ·refine aD rfl hc_140 wz (ai (ai (ai (aa (vB false) (af ?_)))))
         obtain rfl:=ae h_139
         exact cu
       ·rintro ⟨⟩ _ sl_ H_ hp_ hq_
        refine aJ _ hp_ hq_ ?_
        obtain ⟨v_141,h_142,hF⟩:=bind_some hF
        refine aH [(0,(dV (ak 0) 6 v_132)),(3,(vI b_4)),(4,(.fn 33 [])),(18,(vI (w64 q_102))),(24,(vI (w64 ((w64 ((w64 q_102)+m_3))-s_112.1))))] [((ak 0),gB 6 Log_.enc v_132)] ?_ ?_
        ·rcases ah h_142 with⟨hc_143,h_142⟩|⟨hc_143,h_142⟩
         ·refine aB rfl hc_143 (av (aa (dV (ak 0) 6 v_132) (aa (vI a_2) (aa (vI s_112.1) (aa (vI (w64 q_102)) (aa (.fn 33 []) ?_))))))
          cases h_142
         ·refine aA rfl hc_143 (ay ?_)
          obtain rfl:=ae h_142
          exact cu
        ·rintro ⟨⟩ _ sl_ H_ hp_ hq_
         refine aJ _ hp_ hq_ (au ?_)
         obtain ⟨v_144,h_145,hF⟩:=bind_some hF
         refine aH [(0,(dV (ak 0) 6 v_132)),(3,(vI b_4)),(4,(.fn 33 [])),(18,(vI (w64 q_102))),(24,(vI (w64 ((w64 ((w64 q_102)+m_3))-s_112.1)))),(213,(vB v_144))] [((ak 0),gB 6 Log_.enc v_132)] ?_ ?_
         ·refine av (aa (vI (w64 q_102)) (aa (vI (w64 ((w64 ((w64 q_102)+m_3))-s_112.1))) (aa (vB (decide ((w64 q_102)<(w64 ((w64 ((w64 q_102)+m_3))-s_112.1))))) ?_)))
          rcases ah h_145 with⟨hc_146,h_145⟩|⟨hc_146,h_145⟩
          ·refine aD rfl hc_146 wz (aL (vI (w64 ((w64 ((w64 q_102)+m_3))-s_112.1))) wa rfl (aL (vI b_4) wa rfl (aL (vB (decide ((w64 ((w64 ((w64 q_102)+m_3))-s_112.1))<b_4))) wa rfl (aa (vB (decide ((w64 ((w64 ((w64 q_102)+m_3))-s_112.1))<b_4))) (af ?_)))))
           obtain rfl:=ae h_145
           exact cu
          ·refine aD rfl hc_146 wz (ai (ai (ai (aa (vB false) (af ?_)))))
           obtain rfl:=ae h_145
           exact cu
         ·rintro ⟨⟩ _ sl_ H_ hp_ hq_
          refine aJ _ hp_ hq_ ?_
          rcases ah hF with⟨hc_147,hF⟩|⟨hc_147,hF⟩
          ·refine aB rfl hc_147 (av (aa (dV (ak 0) 6 v_132) (aa (vI (w64 q_102)) (aa (vI (w64 ((w64 ((w64 q_102)+m_3))-s_112.1))) (aa (vI b_4) (aa (.fn 33 []) ?_))))))
           cases hF
          ·refine aA rfl hc_147 (ay ?_)
           show lJ _ _ _ _ _ _ _ _
           obtain rfl:=ae hF
           exact jO (bs:=([]:List Box)) (os:=([]:List Box)) (xs:=data_1) (o:=gB 6 Log_.enc v_132) (.inl rfl) [] trivial rfl rfl rfl rfl rfl (by kernel_rfl) bM rfl
theorem jq {data_1:(List Log_)} {a_2:Int} {m_3:Int} {b_4:Int} {r:(List Log_)} (hF:dE data_1 a_2 m_3 b_4=some r) :
  FnM Tryz.prog 57 [(dV (ak 0) 6 data_1),(vI a_2),(vI m_3),(vI b_4),(.fn 33 [])] (([]:List Box)++gI 6 Log_.enc data_1) (.tup []) (([]:List Box).map some++gT data_1 (gB 6 Log_.enc r)):=by
 refine FnM.of_wHv ⟨Tryz.prog,220,[],[]⟩ rfl Tryz.func57 rfl rfl (lb_ rfl) (by kernel_rfl) ?_
 unfold dE at hF
 refine au (aj (aa (vI m_3) (aa (vI a_2) (aa (vI (w64 (m_3-a_2))) (aa (vB ((w64 (m_3-a_2))==1)) (af ?_))))))
 rcases ah hF with⟨hc_6,hF⟩|⟨hc_6,hF⟩
 ·refine aB rfl hc_6 (aj (aa (vI m_3) (aa (vI m_3) (af (aj (aa (vI b_4) (aa (vI b_4) (af (au ?_)))))))))
  obtain ⟨o_15,hj_16,hF⟩:=bind_some hF
  obtain ⟨nq_53,hj_16⟩:=aP hj_16
  refine aU (λ(s_12:Int×Int)=>[(0,(dV (ak 0) 6 data_1)),(1,(vI a_2)),(10,(vI s_12.1))]) (λ(s_12:Int×Int)=>[((ak 0),gB 6 Log_.enc data_1)]) (λ(k_7:Nat)=>(λ(s_12:Int×Int)=>[(0,(dV (ak 0) 6 data_1)),(1,(vI a_2)),(4,(.fn 33 [])),(10,(vI s_12.1)),(11,(vI s_12.2))])) (λs=>fH data_1 a_2 s) o_15 nq_53 (m_3,b_4) hj_16 rfl (aC rfl) ?_ ?_
  ·rintro ⟨k_7,s_12⟩ hL_14
   dsimp only at hL_14
   cases k_7 with
   | zero=>cases hL_14
   | succ k_7 =>
    obtain ⟨c_,hc_13,hL_14⟩:=bind_some hL_14
    unfold fH at hc_13
    refine au (aj (aa (vI s_12.1) (aa (vI s_12.2) (aa (vB (decide (s_12.1<s_12.2))) (af ?_)))))
    rcases ah hc_13 with⟨hc_17,hc_13⟩|⟨hc_17,hc_13⟩
    ·refine aB rfl hc_17 (ay (aI (aj (aa (vI s_12.1) (aa (vI s_12.2) (aa (vI (w64 (s_12.1+s_12.2))) (bB un3 ib rfl wz ?_)))))))
     obtain ⟨q_18,hz_19,hc_13⟩:=bind_some hc_13
     refine jI rfl rfl hz_19 wz (bB ib un3 rfl wz (aa (vI (w64 q_18)) (af (au (aQ (aa (.fn 33 []) (aa (dV (ak 0) 6 data_1) (aa (vI (w64 q_18)) ?_))))))))
     obtain ⟨_,hi_20,hc_13⟩:=bind_some hc_13
     refine aO bg rfl rfl (aW hi_20) (aM hi_20) wz ?_
     obtain ⟨e_21,hy_22,hc_13⟩:=bind_some hc_13
     refine aZ 4 0 (.inr (by kernel_rfl)) (λ_ _ ag=>trivial) bf bL rfl rfl hy_22 (.d (.agg (Log_.enc e_21))) rfl wz (aa (dV (ak 0) 6 data_1) (aa (vI a_2) ?_))
     obtain ⟨_,hi_23,hc_13⟩:=bind_some hc_13
     refine aO bg rfl rfl (aW hi_23) (aM hi_23) wz ?_
     obtain ⟨e_24,hy_25,hc_13⟩:=bind_some hc_13
     refine aZ 8 0 (.inr (by kernel_rfl)) (λ_ _ ag=>⟨.inl ⟨rfl,rfl⟩,trivial⟩) bf bL rfl rfl hy_25 (.d (.agg (Log_.enc e_24))) rfl wz ?_
     obtain ⟨r_26,hr_27,hc_13⟩:=bind_some hc_13
     refine aG (bW hr_27) rfl uY rfl rfl rfl rfl wz (aa (vB (decide (r_26<0))) (af ?_))
     rcases ah hc_13 with⟨hc_28,hc_13⟩|⟨hc_28,hc_13⟩
     ·refine aB rfl hc_28 (av (aa (vI (w64 q_18)) (aa (vI (w64 ((w64 q_18)+1))) (aa (vI (w64 ((w64 q_18)+1))) (af ?_)))))
      obtain rfl:=ae hc_13
      exact aK (k_7,((w64 ((w64 q_18)+1)),s_12.2)) hL_14 (ls_ _) rfl (aC rfl)
     ·refine aA rfl hc_28 (av (aa (vI (w64 q_18)) (aa (vI (w64 q_18)) (af ?_))))
      obtain rfl:=ae hc_13
      exact aK (k_7,(s_12.1,(w64 q_18))) hL_14 (ls_ _) rfl (aC rfl)
    ·refine aA rfl hc_17 (aV ?_)
     obtain rfl:=ae hc_13
     obtain rfl:=ae hL_14
     exact aX ((s_12.1,s_12.2)) rfl rfl (aC rfl)
  ·rintro s_12 ho_ sl_ H_ hp_ hq_
   subst ho_
   refine aJ _ hp_ hq_ (au (aj (aa (vI a_2) (aa (vI a_2) (af ?_)))))
   obtain ⟨o_37,hj_38,hF⟩:=bind_some hF
   obtain ⟨nq_52,hj_38⟩:=aP hj_38
   refine aU (λ(s_34:(List Log_)×Int)=>[]) (λ(s_34:(List Log_)×Int)=>[((ak 0),gB 6 Log_.enc s_34.1)]) (λ(k_29:Nat)=>(λ(s_34:(List Log_)×Int)=>[(0,(dV (ak 0) 6 s_34.1)),(10,(vI s_12.1)),(13,(vI s_34.2))])) (λs=>eU s_12 s) o_37 nq_52 (data_1,a_2) hj_38 rfl (aC rfl) ?_ ?_
   ·rintro ⟨k_29,s_34⟩ hL_36
    dsimp only at hL_36
    cases k_29 with
    | zero=>cases hL_36
    | succ k_29 =>
     obtain ⟨c_,hc_35,hL_36⟩:=bind_some hL_36
     unfold eU at hc_35
     refine au (aj (aa (vI s_34.2) (aa (vI s_12.1) (aa (vI (w64 (s_12.1-1))) (aa (vB (decide (s_34.2<(w64 (s_12.1-1))))) (af ?_))))))
     rcases ah hc_35 with⟨hc_39,hc_35⟩|⟨hc_39,hc_35⟩
     ·refine aB rfl hc_39 (ay (au (aI (aQ (aa (dV (ak 0) 6 s_34.1) (aa (vI s_34.2) (aa (dV (ak 0) 6 s_34.1) (aa (vI s_34.2) (aa (vI (w64 (s_34.2+1))) (aa (dV (ak 0) 6 s_34.1) (aa (vI s_34.2) (aa (vI (w64 (s_34.2+1))) ?_))))))))))))
      obtain ⟨_,hi_40,hc_35⟩:=bind_some hc_35
      refine aO bg rfl rfl (aW hi_40) (aM hi_40) wz ?_
      obtain ⟨e_41,hy_42,hc_35⟩:=bind_some hc_35
      refine aZ 9 0 (.inr (by kernel_rfl)) (λ_ _ ag=>trivial) bf bL rfl rfl hy_42 (.d (.agg (Log_.enc e_41))) rfl wz (aa (dV (ak 0) 6 s_34.1) (aa (vI s_34.2) ?_))
      obtain ⟨_,hi_43,hc_35⟩:=bind_some hc_35
      refine aO bg rfl rfl (aW hi_43) (aM hi_43) wz ?_
      obtain ⟨e_44,hy_45,hc_35⟩:=bind_some hc_35
      refine aZ 13 0 (.inr (by kernel_rfl)) (λ_ _ ag=>⟨.inl ⟨rfl,rfl⟩,trivial⟩) bf bL rfl rfl hy_45 (.d (.agg (Log_.enc e_44))) rfl wz ?_
      obtain ⟨_,hi_46,hc_35⟩:=bind_some hc_35
      refine aO bg rfl rfl (aW hi_46) (aM hi_46) wz ?_
      obtain ⟨e_47,hy_48,hc_35⟩:=bind_some hc_35
      refine cO 15 (.inr (by kernel_rfl)) (λ_ _ ag=>⟨.inr (.inr (by kernel_rfl)),⟨.inr (.inr (by kernel_rfl)),trivial⟩⟩) 0 bf rfl rfl hy_48 e_41 rfl wz (aF (v':=(dV (ak 0) 6 (s_34.1.set (0+(s_34.2).toNat) e_41))) 0 rfl (ax (by simp)) (aF (v':=(dV (ak 0) 6 (s_34.1.set (0+(s_34.2).toNat) e_41))) 61 rfl (ax (by simp)) (aF (v':=(dV (ak 0) 6 (s_34.1.set (0+(s_34.2).toNat) e_41))) 63 rfl (ax (by simp)) (aF (v':=(dV (ak 0) 6 (s_34.1.set (0+(s_34.2).toNat) e_41))) 66 rfl (ax (by simp)) (aF (v':=(dV (ak 0) 6 (s_34.1.set (0+(s_34.2).toNat) e_41))) 71 rfl (ax (by simp)) ?_)))))
      obtain ⟨_,hi_49,hc_35⟩:=bind_some hc_35
      refine aO bg rfl rfl (aW hi_49) (aM hi_49) wz ?_
      obtain ⟨e_50,hy_51,hc_35⟩:=bind_some hc_35
      refine cO 17 (.inr (by kernel_rfl)) (λ_ _ ag=>⟨.inr (.inr (by kernel_rfl)),⟨.inr (.inr (by kernel_rfl)),⟨.inr (.inr (by kernel_rfl)),trivial⟩⟩⟩) 0 bf rfl rfl hy_51 e_44 rfl wz (aF (v':=(dV (ak 0) 6 ((s_34.1.set (0+(s_34.2).toNat) e_41).set (0+((w64 (s_34.2+1))).toNat) e_44))) 0 rfl (ax (by simp)) (aF (v':=(dV (ak 0) 6 ((s_34.1.set (0+(s_34.2).toNat) e_41).set (0+((w64 (s_34.2+1))).toNat) e_44))) 61 rfl (ax (by simp)) (aF (v':=(dV (ak 0) 6 ((s_34.1.set (0+(s_34.2).toNat) e_41).set (0+((w64 (s_34.2+1))).toNat) e_44))) 63 rfl (ax (by simp)) (aF (v':=(dV (ak 0) 6 ((s_34.1.set (0+(s_34.2).toNat) e_41).set (0+((w64 (s_34.2+1))).toNat) e_44))) 66 rfl (ax (by simp)) (aF (v':=(dV (ak 0) 6 ((s_34.1.set (0+(s_34.2).toNat) e_41).set (0+((w64 (s_34.2+1))).toNat) e_44))) 71 rfl (ax (by simp)) (af (av (aa (vI s_34.2) (aa (vI (w64 (s_34.2+1))) (aa (vI (w64 (s_34.2+1))) (af ?_)))))))))))
      obtain rfl:=ae hc_35
      exact aK (k_29,(((s_34.1.set (0+(s_34.2).toNat) e_41).set (0+((w64 (s_34.2+1))).toNat) e_44),(w64 (s_34.2+1)))) hL_36 (ls_ _) rfl (aC rfl)
     ·refine aA rfl hc_39 (aV ?_)
      obtain rfl:=ae hc_35
      obtain rfl:=ae hL_36
      exact aX ((s_34.1,s_34.2)) rfl rfl (aC rfl)
   ·rintro s_34 ho_ sl_ H_ hp_ hq_
    subst ho_
    refine aJ _ hp_ hq_ ?_
    obtain rfl:=ae hF
    exact aN (jO (bs:=([]:List Box)) (os:=([]:List Box)) (xs:=data_1) (o:=gB 6 Log_.enc s_34.1) (.inr rfl) [] trivial rfl rfl rfl rfl rfl (by kernel_rfl) bM rfl)
 ·refine aA rfl hc_6 (ay (au (aj (aa (vI b_4) (aa (vI m_3) (aa (vI (w64 (b_4-m_3))) (aa (vB ((w64 (b_4-m_3))==1)) (af ?_))))))))
  rcases ah hF with⟨hc_54,hF⟩|⟨hc_54,hF⟩
  ·refine aB rfl hc_54 (aj (aa (vI a_2) (aa (vI a_2) (af (aj (aa (vI m_3) (aa (vI m_3) (af (au ?_)))))))))
   obtain ⟨o_63,hj_64,hF⟩:=bind_some hF
   obtain ⟨nq_101,hj_64⟩:=aP hj_64
   refine aU (λ(s_60:Int×Int)=>[(0,(dV (ak 0) 6 data_1)),(2,(vI m_3)),(14,(vI s_60.1))]) (λ(s_60:Int×Int)=>[((ak 0),gB 6 Log_.enc data_1)]) (λ(k_55:Nat)=>(λ(s_60:Int×Int)=>[(0,(dV (ak 0) 6 data_1)),(2,(vI m_3)),(4,(.fn 33 [])),(14,(vI s_60.1)),(15,(vI s_60.2))])) (λs=>fC m_3 data_1 s) o_63 nq_101 (a_2,m_3) hj_64 rfl (aC rfl) ?_ ?_
   ·rintro ⟨k_55,s_60⟩ hL_62
    dsimp only at hL_62
    cases k_55 with
    | zero=>cases hL_62
    | succ k_55 =>
     obtain ⟨c_,hc_61,hL_62⟩:=bind_some hL_62
     unfold fC at hc_61
     refine au (aj (aa (vI s_60.1) (aa (vI s_60.2) (aa (vB (decide (s_60.1<s_60.2))) (af ?_)))))
     rcases ah hc_61 with⟨hc_65,hc_61⟩|⟨hc_65,hc_61⟩
     ·refine aB rfl hc_65 (ay (aI (aj (aa (vI s_60.1) (aa (vI s_60.2) (aa (vI (w64 (s_60.1+s_60.2))) (bB un3 ib rfl wz ?_)))))))
      obtain ⟨q_66,hz_67,hc_61⟩:=bind_some hc_61
      refine jI rfl rfl hz_67 wz (bB ib un3 rfl wz (aa (vI (w64 q_66)) (af (au (aQ (aa (.fn 33 []) (aa (dV (ak 0) 6 data_1) (aa (vI m_3) ?_))))))))
      obtain ⟨_,hi_68,hc_61⟩:=bind_some hc_61
      refine aO bg rfl rfl (aW hi_68) (aM hi_68) wz ?_
      obtain ⟨e_69,hy_70,hc_61⟩:=bind_some hc_61
      refine aZ 4 0 (.inr (by kernel_rfl)) (λ_ _ ag=>trivial) bf bL rfl rfl hy_70 (.d (.agg (Log_.enc e_69))) rfl wz (aa (dV (ak 0) 6 data_1) (aa (vI (w64 q_66)) ?_))
      obtain ⟨_,hi_71,hc_61⟩:=bind_some hc_61
      refine aO bg rfl rfl (aW hi_71) (aM hi_71) wz ?_
      obtain ⟨e_72,hy_73,hc_61⟩:=bind_some hc_61
      refine aZ 8 0 (.inr (by kernel_rfl)) (λ_ _ ag=>⟨.inl ⟨rfl,rfl⟩,trivial⟩) bf bL rfl rfl hy_73 (.d (.agg (Log_.enc e_72))) rfl wz ?_
      obtain ⟨r_74,hr_75,hc_61⟩:=bind_some hc_61
      refine aG (bW hr_75) rfl uY rfl rfl rfl rfl wz (aa (vB (decide (r_74<0))) (aa (vB (!(decide (r_74<0)))) (af ?_)))
      rcases ah hc_61 with⟨hc_76,hc_61⟩|⟨hc_76,hc_61⟩
      ·refine aB rfl hc_76 (av (aa (vI (w64 q_66)) (aa (vI (w64 ((w64 q_66)+1))) (aa (vI (w64 ((w64 q_66)+1))) (af ?_)))))
       obtain rfl:=ae hc_61
       exact aK (k_55,((w64 ((w64 q_66)+1)),s_60.2)) hL_62 (ls_ _) rfl (aC rfl)
      ·refine aA rfl hc_76 (av (aa (vI (w64 q_66)) (aa (vI (w64 q_66)) (af ?_))))
       obtain rfl:=ae hc_61
       exact aK (k_55,(s_60.1,(w64 q_66))) hL_62 (ls_ _) rfl (aC rfl)
     ·refine aA rfl hc_65 (aV ?_)
      obtain rfl:=ae hc_61
      obtain rfl:=ae hL_62
      exact aX ((s_60.1,s_60.2)) rfl rfl (aC rfl)
   ·rintro s_60 ho_ sl_ H_ hp_ hq_
    subst ho_
    refine aJ _ hp_ hq_ (au (aj (aa (vI m_3) (aa (vI m_3) (af ?_)))))
    obtain ⟨o_85,hj_86,hF⟩:=bind_some hF
    obtain ⟨nq_100,hj_86⟩:=aP hj_86
    refine aU (λ(s_82:(List Log_)×Int)=>[]) (λ(s_82:(List Log_)×Int)=>[((ak 0),gB 6 Log_.enc s_82.1)]) (λ(k_77:Nat)=>(λ(s_82:(List Log_)×Int)=>[(0,(dV (ak 0) 6 s_82.1)),(14,(vI s_60.1)),(17,(vI s_82.2))])) (λs=>eX s_60 s) o_85 nq_100 (data_1,m_3) hj_86 rfl (aC rfl) ?_ ?_
    ·rintro ⟨k_77,s_82⟩ hL_84
     dsimp only at hL_84
     cases k_77 with
     | zero=>cases hL_84
     | succ k_77 =>
      obtain ⟨c_,hc_83,hL_84⟩:=bind_some hL_84
      unfold eX at hc_83
      refine au (aj (aa (vI s_82.2) (aa (vI s_60.1) (aa (vB (decide (s_82.2>s_60.1))) (af ?_)))))
      rcases ah hc_83 with⟨hc_87,hc_83⟩|⟨hc_87,hc_83⟩
      ·refine aB rfl hc_87 (ay (au (aI (aQ (aa (dV (ak 0) 6 s_82.1) (aa (vI s_82.2) (aa (dV (ak 0) 6 s_82.1) (aa (vI s_82.2) (aa (vI (w64 (s_82.2-1))) (aa (dV (ak 0) 6 s_82.1) (aa (vI s_82.2) (aa (vI (w64 (s_82.2-1))) ?_))))))))))))
       obtain ⟨_,hi_88,hc_83⟩:=bind_some hc_83
       refine aO bg rfl rfl (aW hi_88) (aM hi_88) wz ?_
       obtain ⟨e_89,hy_90,hc_83⟩:=bind_some hc_83
       refine aZ 9 0 (.inr (by kernel_rfl)) (λ_ _ ag=>trivial) bf bL rfl rfl hy_90 (.d (.agg (Log_.enc e_89))) rfl wz (aa (dV (ak 0) 6 s_82.1) (aa (vI s_82.2) ?_))
       obtain ⟨_,hi_91,hc_83⟩:=bind_some hc_83
       refine aO bg rfl rfl (aW hi_91) (aM hi_91) wz ?_
       obtain ⟨e_92,hy_93,hc_83⟩:=bind_some hc_83
       refine aZ 13 0 (.inr (by kernel_rfl)) (λ_ _ ag=>⟨.inl ⟨rfl,rfl⟩,trivial⟩) bf bL rfl rfl hy_93 (.d (.agg (Log_.enc e_92))) rfl wz ?_
       obtain ⟨_,hi_94,hc_83⟩:=bind_some hc_83
       refine aO bg rfl rfl (aW hi_94) (aM hi_94) wz ?_
       obtain ⟨e_95,hy_96,hc_83⟩:=bind_some hc_83
       refine cO 15 (.inr (by kernel_rfl)) (λ_ _ ag=>⟨.inr (.inr (by kernel_rfl)),⟨.inr (.inr (by kernel_rfl)),trivial⟩⟩) 0 bf rfl rfl hy_96 e_89 rfl wz (aF (v':=(dV (ak 0) 6 (s_82.1.set (0+(s_82.2).toNat) e_89))) 0 rfl (ax (by simp)) (aF (v':=(dV (ak 0) 6 (s_82.1.set (0+(s_82.2).toNat) e_89))) 113 rfl (ax (by simp)) (aF (v':=(dV (ak 0) 6 (s_82.1.set (0+(s_82.2).toNat) e_89))) 115 rfl (ax (by simp)) (aF (v':=(dV (ak 0) 6 (s_82.1.set (0+(s_82.2).toNat) e_89))) 118 rfl (ax (by simp)) (aF (v':=(dV (ak 0) 6 (s_82.1.set (0+(s_82.2).toNat) e_89))) 123 rfl (ax (by simp)) ?_)))))
       obtain ⟨_,hi_97,hc_83⟩:=bind_some hc_83
       refine aO bg rfl rfl (aW hi_97) (aM hi_97) wz ?_
       obtain ⟨e_98,hy_99,hc_83⟩:=bind_some hc_83
       refine cO 17 (.inr (by kernel_rfl)) (λ_ _ ag=>⟨.inr (.inr (by kernel_rfl)),⟨.inr (.inr (by kernel_rfl)),⟨.inr (.inr (by kernel_rfl)),trivial⟩⟩⟩) 0 bf rfl rfl hy_99 e_92 rfl wz (aF (v':=(dV (ak 0) 6 ((s_82.1.set (0+(s_82.2).toNat) e_89).set (0+((w64 (s_82.2-1))).toNat) e_92))) 0 rfl (ax (by simp)) (aF (v':=(dV (ak 0) 6 ((s_82.1.set (0+(s_82.2).toNat) e_89).set (0+((w64 (s_82.2-1))).toNat) e_92))) 113 rfl (ax (by simp)) (aF (v':=(dV (ak 0) 6 ((s_82.1.set (0+(s_82.2).toNat) e_89).set (0+((w64 (s_82.2-1))).toNat) e_92))) 115 rfl (ax (by simp)) (aF (v':=(dV (ak 0) 6 ((s_82.1.set (0+(s_82.2).toNat) e_89).set (0+((w64 (s_82.2-1))).toNat) e_92))) 118 rfl (ax (by simp)) (aF (v':=(dV (ak 0) 6 ((s_82.1.set (0+(s_82.2).toNat) e_89).set (0+((w64 (s_82.2-1))).toNat) e_92))) 123 rfl (ax (by simp)) (af (av (aa (vI s_82.2) (aa (vI (w64 (s_82.2-1))) (aa (vI (w64 (s_82.2-1))) (af ?_)))))))))))
       obtain rfl:=ae hc_83
       exact aK (k_77,(((s_82.1.set (0+(s_82.2).toNat) e_89).set (0+((w64 (s_82.2-1))).toNat) e_92),(w64 (s_82.2-1)))) hL_84 (ls_ _) rfl (aC rfl)
      ·refine aA rfl hc_87 (aV ?_)
       obtain rfl:=ae hc_83
       obtain rfl:=ae hL_84
       exact aX ((s_82.1,s_82.2)) rfl rfl (aC rfl)
    ·rintro s_82 ho_ sl_ H_ hp_ hq_
     subst ho_
     refine aJ _ hp_ hq_ ?_
     obtain rfl:=ae hF
     exact aN (jO (bs:=([]:List Box)) (os:=([]:List Box)) (xs:=data_1) (o:=gB 6 Log_.enc s_82.1) (.inr rfl) [] trivial rfl rfl rfl rfl rfl (by kernel_rfl) bM rfl)
  ·refine aA rfl hc_54 (ay (aj (aa (vI a_2) (aa (vI b_4) (aa (vI (w64 (a_2+b_4))) (bB un3 ib rfl wz ?_))))))
   obtain ⟨q_102,hz_103,hF⟩:=bind_some hF
   refine jI rfl rfl hz_103 wz (bB ib un3 rfl wz (aa (vI (w64 q_102)) (af (aj (aa (vI (w64 q_102)) (aa (vI m_3) (aa (vI (w64 ((w64 q_102)+m_3))) (aa (vI (w64 ((w64 q_102)+m_3))) (af (aj (aa (vI 0) (aa (vI 0) (af (au (aj (aa (vI m_3) (aa (vI (w64 q_102)) (aa (vB (decide (m_3>(w64 q_102)))) (af ?_)))))))))))))))))))
   obtain ⟨v_104,h_105,hF⟩:=bind_some hF
   refine aH [(0,(dV (ak 0) 6 data_1)),(1,(vI a_2)),(2,(vI m_3)),(3,(vI b_4)),(4,(.fn 33 [])),(18,(vI (w64 q_102))),(19,(vI (w64 ((w64 q_102)+m_3)))),(20,(vI v_104.1)),(21,(vI v_104.2))] [((ak 0),gB 6 Log_.enc data_1)] ?_ ?_
   ·rcases ah h_105 with⟨hc_106,h_105⟩|⟨hc_106,h_105⟩
    ·refine aB rfl hc_106 (aj (aa (vI (w64 ((w64 q_102)+m_3))) (aa (vI b_4) (aa (vI (w64 ((w64 ((w64 q_102)+m_3))-b_4))) (aa (vI (w64 ((w64 ((w64 q_102)+m_3))-b_4))) (af (av (aa (vI (w64 q_102)) (aa (vI (w64 q_102)) (af ?_))))))))))
     obtain rfl:=ae h_105
     exact cu
    ·refine aA rfl hc_106 (aj (aa (vI a_2) (aa (vI a_2) (af (av (aa (vI m_3) (aa (vI m_3) (af ?_))))))))
     obtain rfl:=ae h_105
     exact cu
   ·rintro ⟨⟩ _ sl_ H_ hp_ hq_
    refine aJ _ hp_ hq_ (aj (aa (vI (w64 ((w64 q_102)+m_3))) (aa (vI (w64 ((w64 ((w64 q_102)+m_3))-1))) (aa (vI (w64 ((w64 ((w64 q_102)+m_3))-1))) (af (au ?_))))))
    obtain ⟨o_115,hj_116,hF⟩:=bind_some hF
    obtain ⟨nq_154,hj_116⟩:=aP hj_116
    refine aU (λ(s_112:Int×Int)=>[(0,(dV (ak 0) 6 data_1)),(1,(vI a_2)),(2,(vI m_3)),(3,(vI b_4)),(4,(.fn 33 [])),(18,(vI (w64 q_102))),(19,(vI (w64 ((w64 q_102)+m_3)))),(20,(vI s_112.1))]) (λ(s_112:Int×Int)=>[((ak 0),gB 6 Log_.enc data_1)]) (λ(k_107:Nat)=>(λ(s_112:Int×Int)=>[(0,(dV (ak 0) 6 data_1)),(1,(vI a_2)),(2,(vI m_3)),(3,(vI b_4)),(4,(.fn 33 [])),(18,(vI (w64 q_102))),(19,(vI (w64 ((w64 q_102)+m_3)))),(20,(vI s_112.1)),(21,(vI s_112.2)),(22,(vI (w64 ((w64 ((w64 q_102)+m_3))-1))))])) (λs=>fG q_102 m_3 data_1 s) o_115 nq_154 (v_104.1,v_104.2) hj_116 rfl (aC rfl) ?_ ?_
    ·rintro ⟨k_107,s_112⟩ hL_114
     dsimp only at hL_114
     cases k_107 with
     | zero=>cases hL_114
     | succ k_107 =>
      obtain ⟨c_,hc_113,hL_114⟩:=bind_some hL_114
      unfold fG at hc_113
      refine au (aj (aa (vI s_112.1) (aa (vI s_112.2) (aa (vB (decide (s_112.1<s_112.2))) (af ?_)))))
      rcases ah hc_113 with⟨hc_117,hc_113⟩|⟨hc_117,hc_113⟩
      ·refine aB rfl hc_117 (ay (aI (aj (aa (vI s_112.1) (aa (vI s_112.2) (aa (vI (w64 (s_112.1+s_112.2))) (bB un3 ib rfl wz ?_)))))))
       obtain ⟨q_118,hz_119,hc_113⟩:=bind_some hc_113
       refine jI rfl rfl hz_119 wz (bB ib un3 rfl wz (aa (vI (w64 q_118)) (af (au (aQ (aa (.fn 33 []) (aa (dV (ak 0) 6 data_1) (aa (vI (w64 ((w64 ((w64 q_102)+m_3))-1))) (aa (vI (w64 q_118)) (aa (vI (w64 ((w64 ((w64 ((w64 q_102)+m_3))-1))-(w64 q_118)))) ?_))))))))))
       obtain ⟨_,hi_120,hc_113⟩:=bind_some hc_113
       refine aO bg rfl rfl (aW hi_120) (aM hi_120) wz ?_
       obtain ⟨e_121,hy_122,hc_113⟩:=bind_some hc_113
       refine aZ 6 0 (.inr (by kernel_rfl)) (λ_ _ ag=>trivial) bf bL rfl rfl hy_122 (.d (.agg (Log_.enc e_121))) rfl wz (aa (dV (ak 0) 6 data_1) (aa (vI (w64 q_118)) ?_))
       obtain ⟨_,hi_123,hc_113⟩:=bind_some hc_113
       refine aO bg rfl rfl (aW hi_123) (aM hi_123) wz ?_
       obtain ⟨e_124,hy_125,hc_113⟩:=bind_some hc_113
       refine aZ 10 0 (.inr (by kernel_rfl)) (λ_ _ ag=>⟨.inl ⟨rfl,rfl⟩,trivial⟩) bf bL rfl rfl hy_125 (.d (.agg (Log_.enc e_124))) rfl wz ?_
       obtain ⟨r_126,hr_127,hc_113⟩:=bind_some hc_113
       refine aG (bW hr_127) rfl uY rfl rfl rfl rfl wz (aa (vB (decide (r_126<0))) (aa (vB (!(decide (r_126<0)))) (af ?_)))
       rcases ah hc_113 with⟨hc_128,hc_113⟩|⟨hc_128,hc_113⟩
       ·refine aB rfl hc_128 (av (aa (vI (w64 q_118)) (aa (vI (w64 ((w64 q_118)+1))) (aa (vI (w64 ((w64 q_118)+1))) (af ?_)))))
        obtain rfl:=ae hc_113
        exact aK (k_107,((w64 ((w64 q_118)+1)),s_112.2)) hL_114 (ls_ _) rfl (aC rfl)
       ·refine aA rfl hc_128 (av (aa (vI (w64 q_118)) (aa (vI (w64 q_118)) (af ?_))))
        obtain rfl:=ae hc_113
        exact aK (k_107,(s_112.1,(w64 q_118))) hL_114 (ls_ _) rfl (aC rfl)
      ·refine aA rfl hc_117 (aV ?_)
       obtain rfl:=ae hc_113
       obtain rfl:=ae hL_114
       exact aX ((s_112.1,s_112.2)) rfl rfl (aC rfl)
    ·rintro s_112 ho_ sl_ H_ hp_ hq_
     subst ho_
     refine aJ _ hp_ hq_ (aj (aa (vI (w64 ((w64 q_102)+m_3))) (aa (vI s_112.1) (aa (vI (w64 ((w64 ((w64 q_102)+m_3))-s_112.1))) (aa (vI (w64 ((w64 ((w64 q_102)+m_3))-s_112.1))) (af (au (au ?_))))))))
     obtain ⟨v_129,h_130,hF⟩:=bind_some hF
     refine aH [(0,(dV (ak 0) 6 data_1)),(1,(vI a_2)),(2,(vI m_3)),(3,(vI b_4)),(4,(.fn 33 [])),(18,(vI (w64 q_102))),(20,(vI s_112.1)),(24,(vI (w64 ((w64 ((w64 q_102)+m_3))-s_112.1)))),(185,(vB v_129))] [((ak 0),gB 6 Log_.enc data_1)] ?_ ?_
     ·refine av (aa (vI s_112.1) (aa (vI m_3) (aa (vB (decide (s_112.1<m_3))) ?_)))
      rcases ah h_130 with⟨hc_131,h_130⟩|⟨hc_131,h_130⟩
      ·refine aD rfl hc_131 wz (aL (vI m_3) wa rfl (aL (vI (w64 ((w64 ((w64 q_102)+m_3))-s_112.1))) wa rfl (aL (vB (decide (m_3<(w64 ((w64 ((w64 q_102)+m_3))-s_112.1))))) wa rfl (aa (vB (decide (m_3<(w64 ((w64 ((w64 q_102)+m_3))-s_112.1))))) (af ?_)))))
       obtain rfl:=ae h_130
       exact cu
      ·refine aD rfl hc_131 wz (ai (ai (ai (aa (vB false) (af ?_)))))
       obtain rfl:=ae h_130
       exact cu
     ·rintro ⟨⟩ _ sl_ H_ hp_ hq_
      refine aJ _ hp_ hq_ ?_
      obtain ⟨v_132,h_133,hF⟩:=bind_some hF
      refine aH [(0,(dV (ak 0) 6 v_132)),(1,(vI a_2)),(3,(vI b_4)),(4,(.fn 33 [])),(18,(vI (w64 q_102))),(20,(vI s_112.1)),(24,(vI (w64 ((w64 ((w64 q_102)+m_3))-s_112.1))))] [((ak 0),gB 6 Log_.enc v_132)] ?_ ?_
      ·rcases ah h_133 with⟨hc_134,h_133⟩|⟨hc_134,h_133⟩
       ·refine aB rfl hc_134 (av (aa (dV (ak 0) 6 data_1) (aa (vI s_112.1) (aa (vI m_3) (aa (vI (w64 ((w64 ((w64 q_102)+m_3))-s_112.1))) (aa (.fn 33 []) ?_))))))
        obtain ⟨r_135,hr_136,h_133⟩:=bind_some h_133
        obtain ⟨_,hs_137,h_133⟩:=bind_some h_133
        replace hs_137:=bN hs_137
        refine bX 0 [] 0 0 il ft (dQ hr_136) rfl Eg rfl rfl rfl (by kernel_rfl) rfl (.inr (.inl rfl)) rfl (by kernel_rfl) (by kernel_rfl) (by kernel_rfl) (by kernel_rfl) rfl (by decide) (by kernel_rfl) bM (jb hs_137) wz ([((ak 0),gB 6 Log_.enc r_135)]:Hp) (by kernel_rfl) (aF (v':=(dV (ak 0) 6 r_135)) 0 rfl (ax hs_137.symm) (aF (v':=(dV (ak 0) 6 r_135)) 186 rfl (ax hs_137.symm) (af ?_)))
        obtain rfl:=ae h_133
        exact cu
       ·refine aA rfl hc_134 (ay ?_)
        obtain rfl:=ae h_133
        exact cu
      ·rintro ⟨⟩ _ sl_ H_ hp_ hq_
       refine aJ _ hp_ hq_ (au (au ?_))
       obtain ⟨v_138,h_139,hF⟩:=bind_some hF
       refine aH [(0,(dV (ak 0) 6 v_132)),(1,(vI a_2)),(3,(vI b_4)),(4,(.fn 33 [])),(18,(vI (w64 q_102))),(20,(vI s_112.1)),(24,(vI (w64 ((w64 ((w64 q_102)+m_3))-s_112.1)))),(199,(vB v_138))] [((ak 0),gB 6 Log_.enc v_132)] ?_ ?_
       ·refine av (aa (vI a_2) (aa (vI s_112.1) (aa (vB (decide (a_2<s_112.1))) ?_)))
        rcases ah h_139 with⟨hc_140,h_139⟩|⟨hc_140,h_139⟩
        ·refine aD rfl hc_140 wz (aL (vI s_112.1) wa rfl (aL (vI (w64 q_102)) wa rfl (aL (vB (decide (s_112.1<(w64 q_102)))) wa rfl (aa (vB (decide (s_112.1<(w64 q_102)))) (af ?_)))))
         obtain rfl:=ae h_139
         exact cu
        ·refine aD rfl hc_140 wz (ai (ai (ai (aa (vB false) (af ?_)))))
         obtain rfl:=ae h_139
         exact cu
       ·rintro ⟨⟩ _ sl_ H_ hp_ hq_
        refine aJ _ hp_ hq_ ?_
        obtain ⟨v_141,h_142,hF⟩:=bind_some hF
        refine aH [(0,(dV (ak 0) 6 v_141)),(3,(vI b_4)),(4,(.fn 33 [])),(18,(vI (w64 q_102))),(24,(vI (w64 ((w64 ((w64 q_102)+m_3))-s_112.1))))] [((ak 0),gB 6 Log_.enc v_141)] ?_ ?_
        ·rcases ah h_142 with⟨hc_143,h_142⟩|⟨hc_143,h_142⟩
         ·refine aB rfl hc_143 (av (aa (dV (ak 0) 6 v_132) (aa (vI a_2) (aa (vI s_112.1) (aa (vI (w64 q_102)) (aa (.fn 33 []) ?_))))))
          obtain ⟨r_144,hr_145,h_142⟩:=bind_some h_142
          obtain ⟨_,hs_146,h_142⟩:=bind_some h_142
          replace hs_146:=bN hs_146
          refine bX 0 [] 0 0 il ft (jl hr_145) rfl uC rfl rfl rfl (by kernel_rfl) rfl (.inr (.inl rfl)) rfl (by kernel_rfl) (by kernel_rfl) (by kernel_rfl) (by kernel_rfl) rfl (by decide) (by kernel_rfl) bM (jb hs_146) wz ([((ak 0),gB 6 Log_.enc r_144)]:Hp) (by kernel_rfl) (aF (v':=(dV (ak 0) 6 r_144)) 0 rfl (ax hs_146.symm) (aF (v':=(dV (ak 0) 6 r_144)) 200 rfl (ax hs_146.symm) (af ?_)))
          obtain rfl:=ae h_142
          exact cu
         ·refine aA rfl hc_143 (ay ?_)
          obtain rfl:=ae h_142
          exact cu
        ·rintro ⟨⟩ _ sl_ H_ hp_ hq_
         refine aJ _ hp_ hq_ (au ?_)
         obtain ⟨v_147,h_148,hF⟩:=bind_some hF
         refine aH [(0,(dV (ak 0) 6 v_141)),(3,(vI b_4)),(4,(.fn 33 [])),(18,(vI (w64 q_102))),(24,(vI (w64 ((w64 ((w64 q_102)+m_3))-s_112.1)))),(213,(vB v_147))] [((ak 0),gB 6 Log_.enc v_141)] ?_ ?_
         ·refine av (aa (vI (w64 q_102)) (aa (vI (w64 ((w64 ((w64 q_102)+m_3))-s_112.1))) (aa (vB (decide ((w64 q_102)<(w64 ((w64 ((w64 q_102)+m_3))-s_112.1))))) ?_)))
          rcases ah h_148 with⟨hc_149,h_148⟩|⟨hc_149,h_148⟩
          ·refine aD rfl hc_149 wz (aL (vI (w64 ((w64 ((w64 q_102)+m_3))-s_112.1))) wa rfl (aL (vI b_4) wa rfl (aL (vB (decide ((w64 ((w64 ((w64 q_102)+m_3))-s_112.1))<b_4))) wa rfl (aa (vB (decide ((w64 ((w64 ((w64 q_102)+m_3))-s_112.1))<b_4))) (af ?_)))))
           obtain rfl:=ae h_148
           exact cu
          ·refine aD rfl hc_149 wz (ai (ai (ai (aa (vB false) (af ?_)))))
           obtain rfl:=ae h_148
           exact cu
         ·rintro ⟨⟩ _ sl_ H_ hp_ hq_
          refine aJ _ hp_ hq_ ?_
          rcases ah hF with⟨hc_150,hF⟩|⟨hc_150,hF⟩
          ·refine aB rfl hc_150 (av (aa (dV (ak 0) 6 v_141) (aa (vI (w64 q_102)) (aa (vI (w64 ((w64 ((w64 q_102)+m_3))-s_112.1))) (aa (vI b_4) (aa (.fn 33 []) ?_))))))
           obtain ⟨r_151,hr_152,hF⟩:=bind_some hF
           obtain ⟨_,hs_153,hF⟩:=bind_some hF
           replace hs_153:=bN hs_153
           refine bX 0 [] 0 0 il ft (jl hr_152) rfl uC rfl rfl rfl (by kernel_rfl) rfl (.inr (.inl rfl)) rfl (by kernel_rfl) (by kernel_rfl) (by kernel_rfl) (by kernel_rfl) rfl (by decide) (by kernel_rfl) bM (jb hs_153) wz ([((ak 0),gB 6 Log_.enc r_151)]:Hp) (by kernel_rfl) (aF (v':=(dV (ak 0) 6 r_151)) 0 rfl (ax hs_153.symm) (aF (v':=(dV (ak 0) 6 r_151)) 214 rfl (ax hs_153.symm) (af ?_)))
           show lJ _ _ _ _ _ _ _ _
           obtain rfl:=ae hF
           exact jO (bs:=([]:List Box)) (os:=([]:List Box)) (xs:=data_1) (o:=gB 6 Log_.enc r_151) (.inl rfl) [] trivial rfl rfl rfl rfl rfl (by kernel_rfl) bM rfl
          ·refine aA rfl hc_150 (ay ?_)
           show lJ _ _ _ _ _ _ _ _
           obtain rfl:=ae hF
           exact jO (bs:=([]:List Box)) (os:=([]:List Box)) (xs:=data_1) (o:=gB 6 Log_.enc v_141) (.inl rfl) [] trivial rfl rfl rfl rfl rfl (by kernel_rfl) bM rfl
theorem ji {data_1:(List Log_)} {a_2:Int} {m_3:Int} {b_4:Int} {r:(List Log_)} (hF:dD data_1 a_2 m_3 b_4=some r) :
  FnM Tryz.prog 57 [(dV (ak 0) 6 data_1),(vI a_2),(vI m_3),(vI b_4),(.fn 33 [])] (([]:List Box)++gI 6 Log_.enc data_1) (.tup []) (([]:List Box).map some++gT data_1 (gB 6 Log_.enc r)):=by
 refine FnM.of_wHv ⟨Tryz.prog,220,[],[]⟩ rfl Tryz.func57 rfl rfl (lb_ rfl) (by kernel_rfl) ?_
 unfold dD at hF
 refine au (aj (aa (vI m_3) (aa (vI a_2) (aa (vI (w64 (m_3-a_2))) (aa (vB ((w64 (m_3-a_2))==1)) (af ?_))))))
 rcases ah hF with⟨hc_6,hF⟩|⟨hc_6,hF⟩
 ·refine aB rfl hc_6 (aj (aa (vI m_3) (aa (vI m_3) (af (aj (aa (vI b_4) (aa (vI b_4) (af (au ?_)))))))))
  obtain ⟨o_15,hj_16,hF⟩:=bind_some hF
  obtain ⟨nq_53,hj_16⟩:=aP hj_16
  refine aU (λ(s_12:Int×Int)=>[(0,(dV (ak 0) 6 data_1)),(1,(vI a_2)),(10,(vI s_12.1))]) (λ(s_12:Int×Int)=>[((ak 0),gB 6 Log_.enc data_1)]) (λ(k_7:Nat)=>(λ(s_12:Int×Int)=>[(0,(dV (ak 0) 6 data_1)),(1,(vI a_2)),(4,(.fn 33 [])),(10,(vI s_12.1)),(11,(vI s_12.2))])) (λs=>ek data_1 a_2 s) o_15 nq_53 (m_3,b_4) hj_16 rfl (aC rfl) ?_ ?_
  ·rintro ⟨k_7,s_12⟩ hL_14
   dsimp only at hL_14
   cases k_7 with
   | zero=>cases hL_14
   | succ k_7 =>
    obtain ⟨c_,hc_13,hL_14⟩:=bind_some hL_14
    unfold ek at hc_13
    refine au (aj (aa (vI s_12.1) (aa (vI s_12.2) (aa (vB (decide (s_12.1<s_12.2))) (af ?_)))))
    rcases ah hc_13 with⟨hc_17,hc_13⟩|⟨hc_17,hc_13⟩
    ·refine aB rfl hc_17 (ay (aI (aj (aa (vI s_12.1) (aa (vI s_12.2) (aa (vI (w64 (s_12.1+s_12.2))) (bB un3 ib rfl wz ?_)))))))
     obtain ⟨q_18,hz_19,hc_13⟩:=bind_some hc_13
     refine jI rfl rfl hz_19 wz (bB ib un3 rfl wz (aa (vI (w64 q_18)) (af (au (aQ (aa (.fn 33 []) (aa (dV (ak 0) 6 data_1) (aa (vI (w64 q_18)) ?_))))))))
     obtain ⟨_,hi_20,hc_13⟩:=bind_some hc_13
     refine aO bg rfl rfl (aW hi_20) (aM hi_20) wz ?_
     obtain ⟨e_21,hy_22,hc_13⟩:=bind_some hc_13
     refine aZ 4 0 (.inr (by kernel_rfl)) (λ_ _ ag=>trivial) bf bL rfl rfl hy_22 (.d (.agg (Log_.enc e_21))) rfl wz (aa (dV (ak 0) 6 data_1) (aa (vI a_2) ?_))
     obtain ⟨_,hi_23,hc_13⟩:=bind_some hc_13
     refine aO bg rfl rfl (aW hi_23) (aM hi_23) wz ?_
     obtain ⟨e_24,hy_25,hc_13⟩:=bind_some hc_13
     refine aZ 8 0 (.inr (by kernel_rfl)) (λ_ _ ag=>⟨.inl ⟨rfl,rfl⟩,trivial⟩) bf bL rfl rfl hy_25 (.d (.agg (Log_.enc e_24))) rfl wz ?_
     obtain ⟨r_26,hr_27,hc_13⟩:=bind_some hc_13
     refine aG (bW hr_27) rfl uY rfl rfl rfl rfl wz (aa (vB (decide (r_26<0))) (af ?_))
     rcases ah hc_13 with⟨hc_28,hc_13⟩|⟨hc_28,hc_13⟩
     ·refine aB rfl hc_28 (av (aa (vI (w64 q_18)) (aa (vI (w64 ((w64 q_18)+1))) (aa (vI (w64 ((w64 q_18)+1))) (af ?_)))))
      obtain rfl:=ae hc_13
      exact aK (k_7,((w64 ((w64 q_18)+1)),s_12.2)) hL_14 (ls_ _) rfl (aC rfl)
     ·refine aA rfl hc_28 (av (aa (vI (w64 q_18)) (aa (vI (w64 q_18)) (af ?_))))
      obtain rfl:=ae hc_13
      exact aK (k_7,(s_12.1,(w64 q_18))) hL_14 (ls_ _) rfl (aC rfl)
    ·refine aA rfl hc_17 (aV ?_)
     obtain rfl:=ae hc_13
     obtain rfl:=ae hL_14
     exact aX ((s_12.1,s_12.2)) rfl rfl (aC rfl)
  ·rintro s_12 ho_ sl_ H_ hp_ hq_
   subst ho_
   refine aJ _ hp_ hq_ (au (aj (aa (vI a_2) (aa (vI a_2) (af ?_)))))
   obtain ⟨o_37,hj_38,hF⟩:=bind_some hF
   obtain ⟨nq_52,hj_38⟩:=aP hj_38
   refine aU (λ(s_34:(List Log_)×Int)=>[]) (λ(s_34:(List Log_)×Int)=>[((ak 0),gB 6 Log_.enc s_34.1)]) (λ(k_29:Nat)=>(λ(s_34:(List Log_)×Int)=>[(0,(dV (ak 0) 6 s_34.1)),(10,(vI s_12.1)),(13,(vI s_34.2))])) (λs=>fJ s_12 s) o_37 nq_52 (data_1,a_2) hj_38 rfl (aC rfl) ?_ ?_
   ·rintro ⟨k_29,s_34⟩ hL_36
    dsimp only at hL_36
    cases k_29 with
    | zero=>cases hL_36
    | succ k_29 =>
     obtain ⟨c_,hc_35,hL_36⟩:=bind_some hL_36
     unfold fJ at hc_35
     refine au (aj (aa (vI s_34.2) (aa (vI s_12.1) (aa (vI (w64 (s_12.1-1))) (aa (vB (decide (s_34.2<(w64 (s_12.1-1))))) (af ?_))))))
     rcases ah hc_35 with⟨hc_39,hc_35⟩|⟨hc_39,hc_35⟩
     ·refine aB rfl hc_39 (ay (au (aI (aQ (aa (dV (ak 0) 6 s_34.1) (aa (vI s_34.2) (aa (dV (ak 0) 6 s_34.1) (aa (vI s_34.2) (aa (vI (w64 (s_34.2+1))) (aa (dV (ak 0) 6 s_34.1) (aa (vI s_34.2) (aa (vI (w64 (s_34.2+1))) ?_))))))))))))
      obtain ⟨_,hi_40,hc_35⟩:=bind_some hc_35
      refine aO bg rfl rfl (aW hi_40) (aM hi_40) wz ?_
      obtain ⟨e_41,hy_42,hc_35⟩:=bind_some hc_35
      refine aZ 9 0 (.inr (by kernel_rfl)) (λ_ _ ag=>trivial) bf bL rfl rfl hy_42 (.d (.agg (Log_.enc e_41))) rfl wz (aa (dV (ak 0) 6 s_34.1) (aa (vI s_34.2) ?_))
      obtain ⟨_,hi_43,hc_35⟩:=bind_some hc_35
      refine aO bg rfl rfl (aW hi_43) (aM hi_43) wz ?_
      obtain ⟨e_44,hy_45,hc_35⟩:=bind_some hc_35
      refine aZ 13 0 (.inr (by kernel_rfl)) (λ_ _ ag=>⟨.inl ⟨rfl,rfl⟩,trivial⟩) bf bL rfl rfl hy_45 (.d (.agg (Log_.enc e_44))) rfl wz ?_
      obtain ⟨_,hi_46,hc_35⟩:=bind_some hc_35
      refine aO bg rfl rfl (aW hi_46) (aM hi_46) wz ?_
      obtain ⟨e_47,hy_48,hc_35⟩:=bind_some hc_35
      refine cO 15 (.inr (by kernel_rfl)) (λ_ _ ag=>⟨.inr (.inr (by kernel_rfl)),⟨.inr (.inr (by kernel_rfl)),trivial⟩⟩) 0 bf rfl rfl hy_48 e_41 rfl wz (aF (v':=(dV (ak 0) 6 (s_34.1.set (0+(s_34.2).toNat) e_41))) 0 rfl (ax (by simp)) (aF (v':=(dV (ak 0) 6 (s_34.1.set (0+(s_34.2).toNat) e_41))) 61 rfl (ax (by simp)) (aF (v':=(dV (ak 0) 6 (s_34.1.set (0+(s_34.2).toNat) e_41))) 63 rfl (ax (by simp)) (aF (v':=(dV (ak 0) 6 (s_34.1.set (0+(s_34.2).toNat) e_41))) 66 rfl (ax (by simp)) (aF (v':=(dV (ak 0) 6 (s_34.1.set (0+(s_34.2).toNat) e_41))) 71 rfl (ax (by simp)) ?_)))))
      obtain ⟨_,hi_49,hc_35⟩:=bind_some hc_35
      refine aO bg rfl rfl (aW hi_49) (aM hi_49) wz ?_
      obtain ⟨e_50,hy_51,hc_35⟩:=bind_some hc_35
      refine cO 17 (.inr (by kernel_rfl)) (λ_ _ ag=>⟨.inr (.inr (by kernel_rfl)),⟨.inr (.inr (by kernel_rfl)),⟨.inr (.inr (by kernel_rfl)),trivial⟩⟩⟩) 0 bf rfl rfl hy_51 e_44 rfl wz (aF (v':=(dV (ak 0) 6 ((s_34.1.set (0+(s_34.2).toNat) e_41).set (0+((w64 (s_34.2+1))).toNat) e_44))) 0 rfl (ax (by simp)) (aF (v':=(dV (ak 0) 6 ((s_34.1.set (0+(s_34.2).toNat) e_41).set (0+((w64 (s_34.2+1))).toNat) e_44))) 61 rfl (ax (by simp)) (aF (v':=(dV (ak 0) 6 ((s_34.1.set (0+(s_34.2).toNat) e_41).set (0+((w64 (s_34.2+1))).toNat) e_44))) 63 rfl (ax (by simp)) (aF (v':=(dV (ak 0) 6 ((s_34.1.set (0+(s_34.2).toNat) e_41).set (0+((w64 (s_34.2+1))).toNat) e_44))) 66 rfl (ax (by simp)) (aF (v':=(dV (ak 0) 6 ((s_34.1.set (0+(s_34.2).toNat) e_41).set (0+((w64 (s_34.2+1))).toNat) e_44))) 71 rfl (ax (by simp)) (af (av (aa (vI s_34.2) (aa (vI (w64 (s_34.2+1))) (aa (vI (w64 (s_34.2+1))) (af ?_)))))))))))
      obtain rfl:=ae hc_35
      exact aK (k_29,(((s_34.1.set (0+(s_34.2).toNat) e_41).set (0+((w64 (s_34.2+1))).toNat) e_44),(w64 (s_34.2+1)))) hL_36 (ls_ _) rfl (aC rfl)
     ·refine aA rfl hc_39 (aV ?_)
      obtain rfl:=ae hc_35
      obtain rfl:=ae hL_36
      exact aX ((s_34.1,s_34.2)) rfl rfl (aC rfl)
   ·rintro s_34 ho_ sl_ H_ hp_ hq_
    subst ho_
    refine aJ _ hp_ hq_ ?_
    obtain rfl:=ae hF
    exact aN (jO (bs:=([]:List Box)) (os:=([]:List Box)) (xs:=data_1) (o:=gB 6 Log_.enc s_34.1) (.inr rfl) [] trivial rfl rfl rfl rfl rfl (by kernel_rfl) bM rfl)
 ·refine aA rfl hc_6 (ay (au (aj (aa (vI b_4) (aa (vI m_3) (aa (vI (w64 (b_4-m_3))) (aa (vB ((w64 (b_4-m_3))==1)) (af ?_))))))))
  rcases ah hF with⟨hc_54,hF⟩|⟨hc_54,hF⟩
  ·refine aB rfl hc_54 (aj (aa (vI a_2) (aa (vI a_2) (af (aj (aa (vI m_3) (aa (vI m_3) (af (au ?_)))))))))
   obtain ⟨o_63,hj_64,hF⟩:=bind_some hF
   obtain ⟨nq_101,hj_64⟩:=aP hj_64
   refine aU (λ(s_60:Int×Int)=>[(0,(dV (ak 0) 6 data_1)),(2,(vI m_3)),(14,(vI s_60.1))]) (λ(s_60:Int×Int)=>[((ak 0),gB 6 Log_.enc data_1)]) (λ(k_55:Nat)=>(λ(s_60:Int×Int)=>[(0,(dV (ak 0) 6 data_1)),(2,(vI m_3)),(4,(.fn 33 [])),(14,(vI s_60.1)),(15,(vI s_60.2))])) (λs=>fq m_3 data_1 s) o_63 nq_101 (a_2,m_3) hj_64 rfl (aC rfl) ?_ ?_
   ·rintro ⟨k_55,s_60⟩ hL_62
    dsimp only at hL_62
    cases k_55 with
    | zero=>cases hL_62
    | succ k_55 =>
     obtain ⟨c_,hc_61,hL_62⟩:=bind_some hL_62
     unfold fq at hc_61
     refine au (aj (aa (vI s_60.1) (aa (vI s_60.2) (aa (vB (decide (s_60.1<s_60.2))) (af ?_)))))
     rcases ah hc_61 with⟨hc_65,hc_61⟩|⟨hc_65,hc_61⟩
     ·refine aB rfl hc_65 (ay (aI (aj (aa (vI s_60.1) (aa (vI s_60.2) (aa (vI (w64 (s_60.1+s_60.2))) (bB un3 ib rfl wz ?_)))))))
      obtain ⟨q_66,hz_67,hc_61⟩:=bind_some hc_61
      refine jI rfl rfl hz_67 wz (bB ib un3 rfl wz (aa (vI (w64 q_66)) (af (au (aQ (aa (.fn 33 []) (aa (dV (ak 0) 6 data_1) (aa (vI m_3) ?_))))))))
      obtain ⟨_,hi_68,hc_61⟩:=bind_some hc_61
      refine aO bg rfl rfl (aW hi_68) (aM hi_68) wz ?_
      obtain ⟨e_69,hy_70,hc_61⟩:=bind_some hc_61
      refine aZ 4 0 (.inr (by kernel_rfl)) (λ_ _ ag=>trivial) bf bL rfl rfl hy_70 (.d (.agg (Log_.enc e_69))) rfl wz (aa (dV (ak 0) 6 data_1) (aa (vI (w64 q_66)) ?_))
      obtain ⟨_,hi_71,hc_61⟩:=bind_some hc_61
      refine aO bg rfl rfl (aW hi_71) (aM hi_71) wz ?_
      obtain ⟨e_72,hy_73,hc_61⟩:=bind_some hc_61
      refine aZ 8 0 (.inr (by kernel_rfl)) (λ_ _ ag=>⟨.inl ⟨rfl,rfl⟩,trivial⟩) bf bL rfl rfl hy_73 (.d (.agg (Log_.enc e_72))) rfl wz ?_
      obtain ⟨r_74,hr_75,hc_61⟩:=bind_some hc_61
      refine aG (bW hr_75) rfl uY rfl rfl rfl rfl wz (aa (vB (decide (r_74<0))) (aa (vB (!(decide (r_74<0)))) (af ?_)))
      rcases ah hc_61 with⟨hc_76,hc_61⟩|⟨hc_76,hc_61⟩
      ·refine aB rfl hc_76 (av (aa (vI (w64 q_66)) (aa (vI (w64 ((w64 q_66)+1))) (aa (vI (w64 ((w64 q_66)+1))) (af ?_)))))
       obtain rfl:=ae hc_61
       exact aK (k_55,((w64 ((w64 q_66)+1)),s_60.2)) hL_62 (ls_ _) rfl (aC rfl)
      ·refine aA rfl hc_76 (av (aa (vI (w64 q_66)) (aa (vI (w64 q_66)) (af ?_))))
       obtain rfl:=ae hc_61
       exact aK (k_55,(s_60.1,(w64 q_66))) hL_62 (ls_ _) rfl (aC rfl)
     ·refine aA rfl hc_65 (aV ?_)
      obtain rfl:=ae hc_61
      obtain rfl:=ae hL_62
      exact aX ((s_60.1,s_60.2)) rfl rfl (aC rfl)
   ·rintro s_60 ho_ sl_ H_ hp_ hq_
    subst ho_
    refine aJ _ hp_ hq_ (au (aj (aa (vI m_3) (aa (vI m_3) (af ?_)))))
    obtain ⟨o_85,hj_86,hF⟩:=bind_some hF
    obtain ⟨nq_100,hj_86⟩:=aP hj_86
    refine aU (λ(s_82:(List Log_)×Int)=>[]) (λ(s_82:(List Log_)×Int)=>[((ak 0),gB 6 Log_.enc s_82.1)]) (λ(k_77:Nat)=>(λ(s_82:(List Log_)×Int)=>[(0,(dV (ak 0) 6 s_82.1)),(14,(vI s_60.1)),(17,(vI s_82.2))])) (λs=>fo s_60 s) o_85 nq_100 (data_1,m_3) hj_86 rfl (aC rfl) ?_ ?_
    ·rintro ⟨k_77,s_82⟩ hL_84
     dsimp only at hL_84
     cases k_77 with
     | zero=>cases hL_84
     | succ k_77 =>
      obtain ⟨c_,hc_83,hL_84⟩:=bind_some hL_84
      unfold fo at hc_83
      refine au (aj (aa (vI s_82.2) (aa (vI s_60.1) (aa (vB (decide (s_82.2>s_60.1))) (af ?_)))))
      rcases ah hc_83 with⟨hc_87,hc_83⟩|⟨hc_87,hc_83⟩
      ·refine aB rfl hc_87 (ay (au (aI (aQ (aa (dV (ak 0) 6 s_82.1) (aa (vI s_82.2) (aa (dV (ak 0) 6 s_82.1) (aa (vI s_82.2) (aa (vI (w64 (s_82.2-1))) (aa (dV (ak 0) 6 s_82.1) (aa (vI s_82.2) (aa (vI (w64 (s_82.2-1))) ?_))))))))))))
       obtain ⟨_,hi_88,hc_83⟩:=bind_some hc_83
       refine aO bg rfl rfl (aW hi_88) (aM hi_88) wz ?_
       obtain ⟨e_89,hy_90,hc_83⟩:=bind_some hc_83
       refine aZ 9 0 (.inr (by kernel_rfl)) (λ_ _ ag=>trivial) bf bL rfl rfl hy_90 (.d (.agg (Log_.enc e_89))) rfl wz (aa (dV (ak 0) 6 s_82.1) (aa (vI s_82.2) ?_))
       obtain ⟨_,hi_91,hc_83⟩:=bind_some hc_83
       refine aO bg rfl rfl (aW hi_91) (aM hi_91) wz ?_
       obtain ⟨e_92,hy_93,hc_83⟩:=bind_some hc_83
       refine aZ 13 0 (.inr (by kernel_rfl)) (λ_ _ ag=>⟨.inl ⟨rfl,rfl⟩,trivial⟩) bf bL rfl rfl hy_93 (.d (.agg (Log_.enc e_92))) rfl wz ?_
       obtain ⟨_,hi_94,hc_83⟩:=bind_some hc_83
       refine aO bg rfl rfl (aW hi_94) (aM hi_94) wz ?_
       obtain ⟨e_95,hy_96,hc_83⟩:=bind_some hc_83
       refine cO 15 (.inr (by kernel_rfl)) (λ_ _ ag=>⟨.inr (.inr (by kernel_rfl)),⟨.inr (.inr (by kernel_rfl)),trivial⟩⟩) 0 bf rfl rfl hy_96 e_89 rfl wz (aF (v':=(dV (ak 0) 6 (s_82.1.set (0+(s_82.2).toNat) e_89))) 0 rfl (ax (by simp)) (aF (v':=(dV (ak 0) 6 (s_82.1.set (0+(s_82.2).toNat) e_89))) 113 rfl (ax (by simp)) (aF (v':=(dV (ak 0) 6 (s_82.1.set (0+(s_82.2).toNat) e_89))) 115 rfl (ax (by simp)) (aF (v':=(dV (ak 0) 6 (s_82.1.set (0+(s_82.2).toNat) e_89))) 118 rfl (ax (by simp)) (aF (v':=(dV (ak 0) 6 (s_82.1.set (0+(s_82.2).toNat) e_89))) 123 rfl (ax (by simp)) ?_)))))
       obtain ⟨_,hi_97,hc_83⟩:=bind_some hc_83
       refine aO bg rfl rfl (aW hi_97) (aM hi_97) wz ?_
       obtain ⟨e_98,hy_99,hc_83⟩:=bind_some hc_83
       refine cO 17 (.inr (by kernel_rfl)) (λ_ _ ag=>⟨.inr (.inr (by kernel_rfl)),⟨.inr (.inr (by kernel_rfl)),⟨.inr (.inr (by kernel_rfl)),trivial⟩⟩⟩) 0 bf rfl rfl hy_99 e_92 rfl wz (aF (v':=(dV (ak 0) 6 ((s_82.1.set (0+(s_82.2).toNat) e_89).set (0+((w64 (s_82.2-1))).toNat) e_92))) 0 rfl (ax (by simp)) (aF (v':=(dV (ak 0) 6 ((s_82.1.set (0+(s_82.2).toNat) e_89).set (0+((w64 (s_82.2-1))).toNat) e_92))) 113 rfl (ax (by simp)) (aF (v':=(dV (ak 0) 6 ((s_82.1.set (0+(s_82.2).toNat) e_89).set (0+((w64 (s_82.2-1))).toNat) e_92))) 115 rfl (ax (by simp)) (aF (v':=(dV (ak 0) 6 ((s_82.1.set (0+(s_82.2).toNat) e_89).set (0+((w64 (s_82.2-1))).toNat) e_92))) 118 rfl (ax (by simp)) (aF (v':=(dV (ak 0) 6 ((s_82.1.set (0+(s_82.2).toNat) e_89).set (0+((w64 (s_82.2-1))).toNat) e_92))) 123 rfl (ax (by simp)) (af (av (aa (vI s_82.2) (aa (vI (w64 (s_82.2-1))) (aa (vI (w64 (s_82.2-1))) (af ?_)))))))))))
       obtain rfl:=ae hc_83
       exact aK (k_77,(((s_82.1.set (0+(s_82.2).toNat) e_89).set (0+((w64 (s_82.2-1))).toNat) e_92),(w64 (s_82.2-1)))) hL_84 (ls_ _) rfl (aC rfl)
      ·refine aA rfl hc_87 (aV ?_)
       obtain rfl:=ae hc_83
       obtain rfl:=ae hL_84
       exact aX ((s_82.1,s_82.2)) rfl rfl (aC rfl)
    ·rintro s_82 ho_ sl_ H_ hp_ hq_
     subst ho_
     refine aJ _ hp_ hq_ ?_
     obtain rfl:=ae hF
     exact aN (jO (bs:=([]:List Box)) (os:=([]:List Box)) (xs:=data_1) (o:=gB 6 Log_.enc s_82.1) (.inr rfl) [] trivial rfl rfl rfl rfl rfl (by kernel_rfl) bM rfl)
  ·refine aA rfl hc_54 (ay (aj (aa (vI a_2) (aa (vI b_4) (aa (vI (w64 (a_2+b_4))) (bB un3 ib rfl wz ?_))))))
   obtain ⟨q_102,hz_103,hF⟩:=bind_some hF
   refine jI rfl rfl hz_103 wz (bB ib un3 rfl wz (aa (vI (w64 q_102)) (af (aj (aa (vI (w64 q_102)) (aa (vI m_3) (aa (vI (w64 ((w64 q_102)+m_3))) (aa (vI (w64 ((w64 q_102)+m_3))) (af (aj (aa (vI 0) (aa (vI 0) (af (au (aj (aa (vI m_3) (aa (vI (w64 q_102)) (aa (vB (decide (m_3>(w64 q_102)))) (af ?_)))))))))))))))))))
   obtain ⟨v_104,h_105,hF⟩:=bind_some hF
   refine aH [(0,(dV (ak 0) 6 data_1)),(1,(vI a_2)),(2,(vI m_3)),(3,(vI b_4)),(4,(.fn 33 [])),(18,(vI (w64 q_102))),(19,(vI (w64 ((w64 q_102)+m_3)))),(20,(vI v_104.1)),(21,(vI v_104.2))] [((ak 0),gB 6 Log_.enc data_1)] ?_ ?_
   ·rcases ah h_105 with⟨hc_106,h_105⟩|⟨hc_106,h_105⟩
    ·refine aB rfl hc_106 (aj (aa (vI (w64 ((w64 q_102)+m_3))) (aa (vI b_4) (aa (vI (w64 ((w64 ((w64 q_102)+m_3))-b_4))) (aa (vI (w64 ((w64 ((w64 q_102)+m_3))-b_4))) (af (av (aa (vI (w64 q_102)) (aa (vI (w64 q_102)) (af ?_))))))))))
     obtain rfl:=ae h_105
     exact cu
    ·refine aA rfl hc_106 (aj (aa (vI a_2) (aa (vI a_2) (af (av (aa (vI m_3) (aa (vI m_3) (af ?_))))))))
     obtain rfl:=ae h_105
     exact cu
   ·rintro ⟨⟩ _ sl_ H_ hp_ hq_
    refine aJ _ hp_ hq_ (aj (aa (vI (w64 ((w64 q_102)+m_3))) (aa (vI (w64 ((w64 ((w64 q_102)+m_3))-1))) (aa (vI (w64 ((w64 ((w64 q_102)+m_3))-1))) (af (au ?_))))))
    obtain ⟨o_115,hj_116,hF⟩:=bind_some hF
    obtain ⟨nq_154,hj_116⟩:=aP hj_116
    refine aU (λ(s_112:Int×Int)=>[(0,(dV (ak 0) 6 data_1)),(1,(vI a_2)),(2,(vI m_3)),(3,(vI b_4)),(4,(.fn 33 [])),(18,(vI (w64 q_102))),(19,(vI (w64 ((w64 q_102)+m_3)))),(20,(vI s_112.1))]) (λ(s_112:Int×Int)=>[((ak 0),gB 6 Log_.enc data_1)]) (λ(k_107:Nat)=>(λ(s_112:Int×Int)=>[(0,(dV (ak 0) 6 data_1)),(1,(vI a_2)),(2,(vI m_3)),(3,(vI b_4)),(4,(.fn 33 [])),(18,(vI (w64 q_102))),(19,(vI (w64 ((w64 q_102)+m_3)))),(20,(vI s_112.1)),(21,(vI s_112.2)),(22,(vI (w64 ((w64 ((w64 q_102)+m_3))-1))))])) (λs=>eD q_102 m_3 data_1 s) o_115 nq_154 (v_104.1,v_104.2) hj_116 rfl (aC rfl) ?_ ?_
    ·rintro ⟨k_107,s_112⟩ hL_114
     dsimp only at hL_114
     cases k_107 with
     | zero=>cases hL_114
     | succ k_107 =>
      obtain ⟨c_,hc_113,hL_114⟩:=bind_some hL_114
      unfold eD at hc_113
      refine au (aj (aa (vI s_112.1) (aa (vI s_112.2) (aa (vB (decide (s_112.1<s_112.2))) (af ?_)))))
      rcases ah hc_113 with⟨hc_117,hc_113⟩|⟨hc_117,hc_113⟩
      ·refine aB rfl hc_117 (ay (aI (aj (aa (vI s_112.1) (aa (vI s_112.2) (aa (vI (w64 (s_112.1+s_112.2))) (bB un3 ib rfl wz ?_)))))))
       obtain ⟨q_118,hz_119,hc_113⟩:=bind_some hc_113
       refine jI rfl rfl hz_119 wz (bB ib un3 rfl wz (aa (vI (w64 q_118)) (af (au (aQ (aa (.fn 33 []) (aa (dV (ak 0) 6 data_1) (aa (vI (w64 ((w64 ((w64 q_102)+m_3))-1))) (aa (vI (w64 q_118)) (aa (vI (w64 ((w64 ((w64 ((w64 q_102)+m_3))-1))-(w64 q_118)))) ?_))))))))))
       obtain ⟨_,hi_120,hc_113⟩:=bind_some hc_113
       refine aO bg rfl rfl (aW hi_120) (aM hi_120) wz ?_
       obtain ⟨e_121,hy_122,hc_113⟩:=bind_some hc_113
       refine aZ 6 0 (.inr (by kernel_rfl)) (λ_ _ ag=>trivial) bf bL rfl rfl hy_122 (.d (.agg (Log_.enc e_121))) rfl wz (aa (dV (ak 0) 6 data_1) (aa (vI (w64 q_118)) ?_))
       obtain ⟨_,hi_123,hc_113⟩:=bind_some hc_113
       refine aO bg rfl rfl (aW hi_123) (aM hi_123) wz ?_
       obtain ⟨e_124,hy_125,hc_113⟩:=bind_some hc_113
       refine aZ 10 0 (.inr (by kernel_rfl)) (λ_ _ ag=>⟨.inl ⟨rfl,rfl⟩,trivial⟩) bf bL rfl rfl hy_125 (.d (.agg (Log_.enc e_124))) rfl wz ?_
       obtain ⟨r_126,hr_127,hc_113⟩:=bind_some hc_113
       refine aG (bW hr_127) rfl uY rfl rfl rfl rfl wz (aa (vB (decide (r_126<0))) (aa (vB (!(decide (r_126<0)))) (af ?_)))
       rcases ah hc_113 with⟨hc_128,hc_113⟩|⟨hc_128,hc_113⟩
       ·refine aB rfl hc_128 (av (aa (vI (w64 q_118)) (aa (vI (w64 ((w64 q_118)+1))) (aa (vI (w64 ((w64 q_118)+1))) (af ?_)))))
        obtain rfl:=ae hc_113
        exact aK (k_107,((w64 ((w64 q_118)+1)),s_112.2)) hL_114 (ls_ _) rfl (aC rfl)
       ·refine aA rfl hc_128 (av (aa (vI (w64 q_118)) (aa (vI (w64 q_118)) (af ?_))))
        obtain rfl:=ae hc_113
        exact aK (k_107,(s_112.1,(w64 q_118))) hL_114 (ls_ _) rfl (aC rfl)
      ·refine aA rfl hc_117 (aV ?_)
       obtain rfl:=ae hc_113
       obtain rfl:=ae hL_114
       exact aX ((s_112.1,s_112.2)) rfl rfl (aC rfl)
    ·rintro s_112 ho_ sl_ H_ hp_ hq_
     subst ho_
     refine aJ _ hp_ hq_ (aj (aa (vI (w64 ((w64 q_102)+m_3))) (aa (vI s_112.1) (aa (vI (w64 ((w64 ((w64 q_102)+m_3))-s_112.1))) (aa (vI (w64 ((w64 ((w64 q_102)+m_3))-s_112.1))) (af (au (au ?_))))))))
     obtain ⟨v_129,h_130,hF⟩:=bind_some hF
     refine aH [(0,(dV (ak 0) 6 data_1)),(1,(vI a_2)),(2,(vI m_3)),(3,(vI b_4)),(4,(.fn 33 [])),(18,(vI (w64 q_102))),(20,(vI s_112.1)),(24,(vI (w64 ((w64 ((w64 q_102)+m_3))-s_112.1)))),(185,(vB v_129))] [((ak 0),gB 6 Log_.enc data_1)] ?_ ?_
     ·refine av (aa (vI s_112.1) (aa (vI m_3) (aa (vB (decide (s_112.1<m_3))) ?_)))
      rcases ah h_130 with⟨hc_131,h_130⟩|⟨hc_131,h_130⟩
      ·refine aD rfl hc_131 wz (aL (vI m_3) wa rfl (aL (vI (w64 ((w64 ((w64 q_102)+m_3))-s_112.1))) wa rfl (aL (vB (decide (m_3<(w64 ((w64 ((w64 q_102)+m_3))-s_112.1))))) wa rfl (aa (vB (decide (m_3<(w64 ((w64 ((w64 q_102)+m_3))-s_112.1))))) (af ?_)))))
       obtain rfl:=ae h_130
       exact cu
      ·refine aD rfl hc_131 wz (ai (ai (ai (aa (vB false) (af ?_)))))
       obtain rfl:=ae h_130
       exact cu
     ·rintro ⟨⟩ _ sl_ H_ hp_ hq_
      refine aJ _ hp_ hq_ ?_
      obtain ⟨v_132,h_133,hF⟩:=bind_some hF
      refine aH [(0,(dV (ak 0) 6 v_132)),(1,(vI a_2)),(3,(vI b_4)),(4,(.fn 33 [])),(18,(vI (w64 q_102))),(20,(vI s_112.1)),(24,(vI (w64 ((w64 ((w64 q_102)+m_3))-s_112.1))))] [((ak 0),gB 6 Log_.enc v_132)] ?_ ?_
      ·rcases ah h_133 with⟨hc_134,h_133⟩|⟨hc_134,h_133⟩
       ·refine aB rfl hc_134 (av (aa (dV (ak 0) 6 data_1) (aa (vI s_112.1) (aa (vI m_3) (aa (vI (w64 ((w64 ((w64 q_102)+m_3))-s_112.1))) (aa (.fn 33 []) ?_))))))
        obtain ⟨r_135,hr_136,h_133⟩:=bind_some h_133
        obtain ⟨_,hs_137,h_133⟩:=bind_some h_133
        replace hs_137:=bN hs_137
        refine bX 0 [] 0 0 il ft (dQ hr_136) rfl Eg rfl rfl rfl (by kernel_rfl) rfl (.inr (.inl rfl)) rfl (by kernel_rfl) (by kernel_rfl) (by kernel_rfl) (by kernel_rfl) rfl (by decide) (by kernel_rfl) bM (jb hs_137) wz ([((ak 0),gB 6 Log_.enc r_135)]:Hp) (by kernel_rfl) (aF (v':=(dV (ak 0) 6 r_135)) 0 rfl (ax hs_137.symm) (aF (v':=(dV (ak 0) 6 r_135)) 186 rfl (ax hs_137.symm) (af ?_)))
        obtain rfl:=ae h_133
        exact cu
       ·refine aA rfl hc_134 (ay ?_)
        obtain rfl:=ae h_133
        exact cu
      ·rintro ⟨⟩ _ sl_ H_ hp_ hq_
       refine aJ _ hp_ hq_ (au (au ?_))
       obtain ⟨v_138,h_139,hF⟩:=bind_some hF
       refine aH [(0,(dV (ak 0) 6 v_132)),(1,(vI a_2)),(3,(vI b_4)),(4,(.fn 33 [])),(18,(vI (w64 q_102))),(20,(vI s_112.1)),(24,(vI (w64 ((w64 ((w64 q_102)+m_3))-s_112.1)))),(199,(vB v_138))] [((ak 0),gB 6 Log_.enc v_132)] ?_ ?_
       ·refine av (aa (vI a_2) (aa (vI s_112.1) (aa (vB (decide (a_2<s_112.1))) ?_)))
        rcases ah h_139 with⟨hc_140,h_139⟩|⟨hc_140,h_139⟩
        ·refine aD rfl hc_140 wz (aL (vI s_112.1) wa rfl (aL (vI (w64 q_102)) wa rfl (aL (vB (decide (s_112.1<(w64 q_102)))) wa rfl (aa (vB (decide (s_112.1<(w64 q_102)))) (af ?_)))))
         obtain rfl:=ae h_139
         exact cu
        ·refine aD rfl hc_140 wz (ai (ai (ai (aa (vB false) (af ?_)))))
         obtain rfl:=ae h_139
         exact cu
       ·rintro ⟨⟩ _ sl_ H_ hp_ hq_
        refine aJ _ hp_ hq_ ?_
        obtain ⟨v_141,h_142,hF⟩:=bind_some hF
        refine aH [(0,(dV (ak 0) 6 v_141)),(3,(vI b_4)),(4,(.fn 33 [])),(18,(vI (w64 q_102))),(24,(vI (w64 ((w64 ((w64 q_102)+m_3))-s_112.1))))] [((ak 0),gB 6 Log_.enc v_141)] ?_ ?_
        ·rcases ah h_142 with⟨hc_143,h_142⟩|⟨hc_143,h_142⟩
         ·refine aB rfl hc_143 (av (aa (dV (ak 0) 6 v_132) (aa (vI a_2) (aa (vI s_112.1) (aa (vI (w64 q_102)) (aa (.fn 33 []) ?_))))))
          obtain ⟨r_144,hr_145,h_142⟩:=bind_some h_142
          obtain ⟨_,hs_146,h_142⟩:=bind_some h_142
          replace hs_146:=bN hs_146
          refine bX 0 [] 0 0 il ft (jq hr_145) rfl uC rfl rfl rfl (by kernel_rfl) rfl (.inr (.inl rfl)) rfl (by kernel_rfl) (by kernel_rfl) (by kernel_rfl) (by kernel_rfl) rfl (by decide) (by kernel_rfl) bM (jb hs_146) wz ([((ak 0),gB 6 Log_.enc r_144)]:Hp) (by kernel_rfl) (aF (v':=(dV (ak 0) 6 r_144)) 0 rfl (ax hs_146.symm) (aF (v':=(dV (ak 0) 6 r_144)) 200 rfl (ax hs_146.symm) (af ?_)))
          obtain rfl:=ae h_142
          exact cu
         ·refine aA rfl hc_143 (ay ?_)
          obtain rfl:=ae h_142
          exact cu
        ·rintro ⟨⟩ _ sl_ H_ hp_ hq_
         refine aJ _ hp_ hq_ (au ?_)
         obtain ⟨v_147,h_148,hF⟩:=bind_some hF
         refine aH [(0,(dV (ak 0) 6 v_141)),(3,(vI b_4)),(4,(.fn 33 [])),(18,(vI (w64 q_102))),(24,(vI (w64 ((w64 ((w64 q_102)+m_3))-s_112.1)))),(213,(vB v_147))] [((ak 0),gB 6 Log_.enc v_141)] ?_ ?_
         ·refine av (aa (vI (w64 q_102)) (aa (vI (w64 ((w64 ((w64 q_102)+m_3))-s_112.1))) (aa (vB (decide ((w64 q_102)<(w64 ((w64 ((w64 q_102)+m_3))-s_112.1))))) ?_)))
          rcases ah h_148 with⟨hc_149,h_148⟩|⟨hc_149,h_148⟩
          ·refine aD rfl hc_149 wz (aL (vI (w64 ((w64 ((w64 q_102)+m_3))-s_112.1))) wa rfl (aL (vI b_4) wa rfl (aL (vB (decide ((w64 ((w64 ((w64 q_102)+m_3))-s_112.1))<b_4))) wa rfl (aa (vB (decide ((w64 ((w64 ((w64 q_102)+m_3))-s_112.1))<b_4))) (af ?_)))))
           obtain rfl:=ae h_148
           exact cu
          ·refine aD rfl hc_149 wz (ai (ai (ai (aa (vB false) (af ?_)))))
           obtain rfl:=ae h_148
           exact cu
         ·rintro ⟨⟩ _ sl_ H_ hp_ hq_
          refine aJ _ hp_ hq_ ?_
          rcases ah hF with⟨hc_150,hF⟩|⟨hc_150,hF⟩
          ·refine aB rfl hc_150 (av (aa (dV (ak 0) 6 v_141) (aa (vI (w64 q_102)) (aa (vI (w64 ((w64 ((w64 q_102)+m_3))-s_112.1))) (aa (vI b_4) (aa (.fn 33 []) ?_))))))
           obtain ⟨r_151,hr_152,hF⟩:=bind_some hF
           obtain ⟨_,hs_153,hF⟩:=bind_some hF
           replace hs_153:=bN hs_153
           refine bX 0 [] 0 0 il ft (jq hr_152) rfl uC rfl rfl rfl (by kernel_rfl) rfl (.inr (.inl rfl)) rfl (by kernel_rfl) (by kernel_rfl) (by kernel_rfl) (by kernel_rfl) rfl (by decide) (by kernel_rfl) bM (jb hs_153) wz ([((ak 0),gB 6 Log_.enc r_151)]:Hp) (by kernel_rfl) (aF (v':=(dV (ak 0) 6 r_151)) 0 rfl (ax hs_153.symm) (aF (v':=(dV (ak 0) 6 r_151)) 214 rfl (ax hs_153.symm) (af ?_)))
           show lJ _ _ _ _ _ _ _ _
           obtain rfl:=ae hF
           exact jO (bs:=([]:List Box)) (os:=([]:List Box)) (xs:=data_1) (o:=gB 6 Log_.enc r_151) (.inl rfl) [] trivial rfl rfl rfl rfl rfl (by kernel_rfl) bM rfl
          ·refine aA rfl hc_150 (ay ?_)
           show lJ _ _ _ _ _ _ _ _
           obtain rfl:=ae hF
           exact jO (bs:=([]:List Box)) (os:=([]:List Box)) (xs:=data_1) (o:=gB 6 Log_.enc v_141) (.inl rfl) [] trivial rfl rfl rfl rfl rfl (by kernel_rfl) bM rfl
end Go.Proofs.YtdpginbnipklcaaGreatDoor.Law

