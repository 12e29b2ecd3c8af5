/-
 The machine computes these plain functions (written by a program of ours).
-/
import Derived.Test.YtdpginbnipklcaaGreatDoorFacts
import Derived.Test.YtdpginbnipklcaaGreatDoorDefs
import Derived.Test.YtdpginbnipklcaaGreatDoorPf5
open Go Go.Eng Go.Proofs
namespace Go.Proofs.YtdpginbnipklcaaGreatDoor.Law
set_option maxRecDepth 100000
set_option linter.unusedVariables false
set_option maxHeartbeats 1000000
theorem jJ {data_1:(List Log_)} {a_2:Int} {m_3:Int} {b_4:Int} {r:(List Log_)} (hF:d9 data_1 a_2 m_3 b_4=some r) :
  FnM Tryz.prog 57 [(dV (ak 0) 6 data_1),(vI a_2),(vI m_3),(vI b_4),(.fn 33 [])] (([]:List Box)++gI 6 Log_.enc data_1) (.tup []) (([]:List Box).map some++gT data_1 (gB 6 Log_.enc r)):=by
 refine FnM.of_wHv ⟨Tryz.prog,220,[],[]⟩ rfl Tryz.func57 rfl rfl (lb_ rfl) (by kernel_rfl) ?_
 unfold d9 at hF
 refine au (aj (aa (vI m_3) (aa (vI a_2) (aa (vI (w64 (m_3-a_2))) (aa (vB ((w64 (m_3-a_2))==1)) (af ?_))))))
 rcases ah hF with⟨hc_6,hF⟩|⟨hc_6,hF⟩
 ·refine aB rfl hc_6 (aj (aa (vI m_3) (aa (vI m_3) (af (aj (aa (vI b_4) (aa (vI b_4) (af (au ?_)))))))))
  obtain ⟨o_15,hj_16,hF⟩:=bind_some hF
  obtain ⟨nq_53,hj_16⟩:=aP hj_16
  refine aU (λ(s_12:Int×Int)=>[(0,(dV (ak 0) 6 data_1)),(1,(vI a_2)),(10,(vI s_12.1))]) (λ(s_12:Int×Int)=>[((ak 0),gB 6 Log_.enc data_1)]) (λ(k_7:Nat)=>(λ(s_12:Int×Int)=>[(0,(dV (ak 0) 6 data_1)),(1,(vI a_2)),(4,(.fn 33 [])),(10,(vI s_12.1)),(11,(vI s_12.2))])) (λs=>gZ data_1 a_2 s) o_15 nq_53 (m_3,b_4) hj_16 rfl (aC rfl) ?_ ?_
  ·rintro ⟨k_7,s_12⟩ hL_14
   dsimp only at hL_14
   cases k_7 with
   | zero=>cases hL_14
   | succ k_7 =>
    obtain ⟨c_,hc_13,hL_14⟩:=bind_some hL_14
    unfold gZ at hc_13
    refine au (aj (aa (vI s_12.1) (aa (vI s_12.2) (aa (vB (decide (s_12.1<s_12.2))) (af ?_)))))
    rcases ah hc_13 with⟨hc_17,hc_13⟩|⟨hc_17,hc_13⟩
    ·refine aB rfl hc_17 (ay (aI (aj (aa (vI s_12.1) (aa (vI s_12.2) (aa (vI (w64 (s_12.1+s_12.2))) (bB un3 ib rfl wz ?_)))))))
     obtain ⟨q_18,hz_19,hc_13⟩:=bind_some hc_13
     refine jI rfl rfl hz_19 wz (bB ib un3 rfl wz (aa (vI (w64 q_18)) (af (au (aQ (aa (.fn 33 []) (aa (dV (ak 0) 6 data_1) (aa (vI (w64 q_18)) ?_))))))))
     obtain ⟨_,hi_20,hc_13⟩:=bind_some hc_13
     refine aO bg rfl rfl (aW hi_20) (aM hi_20) wz ?_
     obtain ⟨e_21,hy_22,hc_13⟩:=bind_some hc_13
     refine aZ 4 0 (.inr (by kernel_rfl)) (λ_ _ ag=>trivial) bf bL rfl rfl hy_22 (.d (.agg (Log_.enc e_21))) rfl wz (aa (dV (ak 0) 6 data_1) (aa (vI a_2) ?_))
     obtain ⟨_,hi_23,hc_13⟩:=bind_some hc_13
     refine aO bg rfl rfl (aW hi_23) (aM hi_23) wz ?_
     obtain ⟨e_24,hy_25,hc_13⟩:=bind_some hc_13
     refine aZ 8 0 (.inr (by kernel_rfl)) (λ_ _ ag=>⟨.inl ⟨rfl,rfl⟩,trivial⟩) bf bL rfl rfl hy_25 (.d (.agg (Log_.enc e_24))) rfl wz ?_
     obtain ⟨r_26,hr_27,hc_13⟩:=bind_some hc_13
     refine aG (bW hr_27) rfl uY rfl rfl rfl rfl wz (aa (vB (decide (r_26<0))) (af ?_))
     rcases ah hc_13 with⟨hc_28,hc_13⟩|⟨hc_28,hc_13⟩
     ·refine aB rfl hc_28 (av (aa (vI (w64 q_18)) (aa (vI (w64 ((w64 q_18)+1))) (aa (vI (w64 ((w64 q_18)+1))) (af ?_)))))
      obtain rfl:=ae hc_13
      exact aK (k_7,((w64 ((w64 q_18)+1)),s_12.2)) hL_14 (ls_ _) rfl (aC rfl)
     ·refine aA rfl hc_28 (av (aa (vI (w64 q_18)) (aa (vI (w64 q_18)) (af ?_))))
      obtain rfl:=ae hc_13
      exact aK (k_7,(s_12.1,(w64 q_18))) hL_14 (ls_ _) rfl (aC rfl)
    ·refine aA rfl hc_17 (aV ?_)
     obtain rfl:=ae hc_13
     obtain rfl:=ae hL_14
     exact aX ((s_12.1,s_12.2)) rfl rfl (aC rfl)
  ·rintro s_12 ho_ sl_ H_ hp_ hq_
   subst ho_
   refine aJ _ hp_ hq_ (au (aj (aa (vI a_2) (aa (vI a_2) (af ?_)))))
   obtain ⟨o_37,hj_38,hF⟩:=bind_some hF
   obtain ⟨nq_52,hj_38⟩:=aP hj_38
   refine aU (λ(s_34:(List Log_)×Int)=>[]) (λ(s_34:(List Log_)×Int)=>[((ak 0),gB 6 Log_.enc s_34.1)]) (λ(k_29:Nat)=>(λ(s_34:(List Log_)×Int)=>[(0,(dV (ak 0) 6 s_34.1)),(10,(vI s_12.1)),(13,(vI s_34.2))])) (λs=>gP s_12 s) o_37 nq_52 (data_1,a_2) hj_38 rfl (aC rfl) ?_ ?_
   ·rintro ⟨k_29,s_34⟩ hL_36
    dsimp only at hL_36
    cases k_29 with
    | zero=>cases hL_36
    | succ k_29 =>
     obtain ⟨c_,hc_35,hL_36⟩:=bind_some hL_36
     unfold gP at hc_35
     refine au (aj (aa (vI s_34.2) (aa (vI s_12.1) (aa (vI (w64 (s_12.1-1))) (aa (vB (decide (s_34.2<(w64 (s_12.1-1))))) (af ?_))))))
     rcases ah hc_35 with⟨hc_39,hc_35⟩|⟨hc_39,hc_35⟩
     ·refine aB rfl hc_39 (ay (au (aI (aQ (aa (dV (ak 0) 6 s_34.1) (aa (vI s_34.2) (aa (dV (ak 0) 6 s_34.1) (aa (vI s_34.2) (aa (vI (w64 (s_34.2+1))) (aa (dV (ak 0) 6 s_34.1) (aa (vI s_34.2) (aa (vI (w64 (s_34.2+1))) ?_))))))))))))
      obtain ⟨_,hi_40,hc_35⟩:=bind_some hc_35
      refine aO bg rfl rfl (aW hi_40) (aM hi_40) wz ?_
      obtain ⟨e_41,hy_42,hc_35⟩:=bind_some hc_35
      refine aZ 9 0 (.inr (by kernel_rfl)) (λ_ _ ag=>trivial) bf bL rfl rfl hy_42 (.d (.agg (Log_.enc e_41))) rfl wz (aa (dV (ak 0) 6 s_34.1) (aa (vI s_34.2) ?_))
      obtain ⟨_,hi_43,hc_35⟩:=bind_some hc_35
      refine aO bg rfl rfl (aW hi_43) (aM hi_43) wz ?_
      obtain ⟨e_44,hy_45,hc_35⟩:=bind_some hc_35
      refine aZ 13 0 (.inr (by kernel_rfl)) (λ_ _ ag=>⟨.inl ⟨rfl,rfl⟩,trivial⟩) bf bL rfl rfl hy_45 (.d (.agg (Log_.enc e_44))) rfl wz ?_
      obtain ⟨_,hi_46,hc_35⟩:=bind_some hc_35
      refine aO bg rfl rfl (aW hi_46) (aM hi_46) wz ?_
      obtain ⟨e_47,hy_48,hc_35⟩:=bind_some hc_35
      refine cO 15 (.inr (by kernel_rfl)) (λ_ _ ag=>⟨.inr (.inr (by kernel_rfl)),⟨.inr (.inr (by kernel_rfl)),trivial⟩⟩) 0 bf rfl rfl hy_48 e_41 rfl wz (aF (v':=(dV (ak 0) 6 (s_34.1.set (0+(s_34.2).toNat) e_41))) 0 rfl (ax (by simp)) (aF (v':=(dV (ak 0) 6 (s_34.1.set (0+(s_34.2).toNat) e_41))) 61 rfl (ax (by simp)) (aF (v':=(dV (ak 0) 6 (s_34.1.set (0+(s_34.2).toNat) e_41))) 63 rfl (ax (by simp)) (aF (v':=(dV (ak 0) 6 (s_34.1.set (0+(s_34.2).toNat) e_41))) 66 rfl (ax (by simp)) (aF (v':=(dV (ak 0) 6 (s_34.1.set (0+(s_34.2).toNat) e_41))) 71 rfl (ax (by simp)) ?_)))))
      obtain ⟨_,hi_49,hc_35⟩:=bind_some hc_35
      refine aO bg rfl rfl (aW hi_49) (aM hi_49) wz ?_
      obtain ⟨e_50,hy_51,hc_35⟩:=bind_some hc_35
      refine cO 17 (.inr (by kernel_rfl)) (λ_ _ ag=>⟨.inr (.inr (by kernel_rfl)),⟨.inr (.inr (by kernel_rfl)),⟨.inr (.inr (by kernel_rfl)),trivial⟩⟩⟩) 0 bf rfl rfl hy_51 e_44 rfl wz (aF (v':=(dV (ak 0) 6 ((s_34.1.set (0+(s_34.2).toNat) e_41).set (0+((w64 (s_34.2+1))).toNat) e_44))) 0 rfl (ax (by simp)) (aF (v':=(dV (ak 0) 6 ((s_34.1.set (0+(s_34.2).toNat) e_41).set (0+((w64 (s_34.2+1))).toNat) e_44))) 61 rfl (ax (by simp)) (aF (v':=(dV (ak 0) 6 ((s_34.1.set (0+(s_34.2).toNat) e_41).set (0+((w64 (s_34.2+1))).toNat) e_44))) 63 rfl (ax (by simp)) (aF (v':=(dV (ak 0) 6 ((s_34.1.set (0+(s_34.2).toNat) e_41).set (0+((w64 (s_34.2+1))).toNat) e_44))) 66 rfl (ax (by simp)) (aF (v':=(dV (ak 0) 6 ((s_34.1.set (0+(s_34.2).toNat) e_41).set (0+((w64 (s_34.2+1))).toNat) e_44))) 71 rfl (ax (by simp)) (af (av (aa (vI s_34.2) (aa (vI (w64 (s_34.2+1))) (aa (vI (w64 (s_34.2+1))) (af ?_)))))))))))
      obtain rfl:=ae hc_35
      exact aK (k_29,(((s_34.1.set (0+(s_34.2).toNat) e_41).set (0+((w64 (s_34.2+1))).toNat) e_44),(w64 (s_34.2+1)))) hL_36 (ls_ _) rfl (aC rfl)
     ·refine aA rfl hc_39 (aV ?_)
      obtain rfl:=ae hc_35
      obtain rfl:=ae hL_36
      exact aX ((s_34.1,s_34.2)) rfl rfl (aC rfl)
   ·rintro s_34 ho_ sl_ H_ hp_ hq_
    subst ho_
    refine aJ _ hp_ hq_ ?_
    obtain rfl:=ae hF
    exact aN (jO (bs:=([]:List Box)) (os:=([]:List Box)) (xs:=data_1) (o:=gB 6 Log_.enc s_34.1) (.inr rfl) [] trivial rfl rfl rfl rfl rfl (by kernel_rfl) bM rfl)
 ·refine aA rfl hc_6 (ay (au (aj (aa (vI b_4) (aa (vI m_3) (aa (vI (w64 (b_4-m_3))) (aa (vB ((w64 (b_4-m_3))==1)) (af ?_))))))))
  rcases ah hF with⟨hc_54,hF⟩|⟨hc_54,hF⟩
  ·refine aB rfl hc_54 (aj (aa (vI a_2) (aa (vI a_2) (af (aj (aa (vI m_3) (aa (vI m_3) (af (au ?_)))))))))
   obtain ⟨o_63,hj_64,hF⟩:=bind_some hF
   obtain ⟨nq_101,hj_64⟩:=aP hj_64
   refine aU (λ(s_60:Int×Int)=>[(0,(dV (ak 0) 6 data_1)),(2,(vI m_3)),(14,(vI s_60.1))]) (λ(s_60:Int×Int)=>[((ak 0),gB 6 Log_.enc data_1)]) (λ(k_55:Nat)=>(λ(s_60:Int×Int)=>[(0,(dV (ak 0) 6 data_1)),(2,(vI m_3)),(4,(.fn 33 [])),(14,(vI s_60.1)),(15,(vI s_60.2))])) (λs=>gN m_3 data_1 s) o_63 nq_101 (a_2,m_3) hj_64 rfl (aC rfl) ?_ ?_
   ·rintro ⟨k_55,s_60⟩ hL_62
    dsimp only at hL_62
    cases k_55 with
    | zero=>cases hL_62
    | succ k_55 =>
     obtain ⟨c_,hc_61,hL_62⟩:=bind_some hL_62
     unfold gN at hc_61
     refine au (aj (aa (vI s_60.1) (aa (vI s_60.2) (aa (vB (decide (s_60.1<s_60.2))) (af ?_)))))
     rcases ah hc_61 with⟨hc_65,hc_61⟩|⟨hc_65,hc_61⟩
     ·refine aB rfl hc_65 (ay (aI (aj (aa (vI s_60.1) (aa (vI s_60.2) (aa (vI (w64 (s_60.1+s_60.2))) (bB un3 ib rfl wz ?_)))))))
      obtain ⟨q_66,hz_67,hc_61⟩:=bind_some hc_61
      refine jI rfl rfl hz_67 wz (bB ib un3 rfl wz (aa (vI (w64 q_66)) (af (au (aQ (aa (.fn 33 []) (aa (dV (ak 0) 6 data_1) (aa (vI m_3) ?_))))))))
      obtain ⟨_,hi_68,hc_61⟩:=bind_some hc_61
      refine aO bg rfl rfl (aW hi_68) (aM hi_68) wz ?_
      obtain ⟨e_69,hy_70,hc_61⟩:=bind_some hc_61
      refine aZ 4 0 (.inr (by kernel_rfl)) (λ_ _ ag=>trivial) bf bL rfl rfl hy_70 (.d (.agg (Log_.enc e_69))) rfl wz (aa (dV (ak 0) 6 data_1) (aa (vI (w64 q_66)) ?_))
      obtain ⟨_,hi_71,hc_61⟩:=bind_some hc_61
      refine aO bg rfl rfl (aW hi_71) (aM hi_71) wz ?_
      obtain ⟨e_72,hy_73,hc_61⟩:=bind_some hc_61
      refine aZ 8 0 (.inr (by kernel_rfl)) (λ_ _ ag=>⟨.inl ⟨rfl,rfl⟩,trivial⟩) bf bL rfl rfl hy_73 (.d (.agg (Log_.enc e_72))) rfl wz ?_
      obtain ⟨r_74,hr_75,hc_61⟩:=bind_some hc_61
      refine aG (bW hr_75) rfl uY rfl rfl rfl rfl wz (aa (vB (decide (r_74<0))) (aa (vB (!(decide (r_74<0)))) (af ?_)))
      rcases ah hc_61 with⟨hc_76,hc_61⟩|⟨hc_76,hc_61⟩
      ·refine aB rfl hc_76 (av (aa (vI (w64 q_66)) (aa (vI (w64 ((w64 q_66)+1))) (aa (vI (w64 ((w64 q_66)+1))) (af ?_)))))
       obtain rfl:=ae hc_61
       exact aK (k_55,((w64 ((w64 q_66)+1)),s_60.2)) hL_62 (ls_ _) rfl (aC rfl)
      ·refine aA rfl hc_76 (av (aa (vI (w64 q_66)) (aa (vI (w64 q_66)) (af ?_))))
       obtain rfl:=ae hc_61
       exact aK (k_55,(s_60.1,(w64 q_66))) hL_62 (ls_ _) rfl (aC rfl)
     ·refine aA rfl hc_65 (aV ?_)
      obtain rfl:=ae hc_61
      obtain rfl:=ae hL_62
      exact aX ((s_60.1,s_60.2)) rfl rfl (aC rfl)
   ·rintro s_60 ho_ sl_ H_ hp_ hq_
    subst ho_
    refine aJ _ hp_ hq_ (au (aj (aa (vI m_3) (aa (vI m_3) (af ?_)))))
    obtain ⟨o_85,hj_86,hF⟩:=bind_some hF
    obtain ⟨nq_100,hj_86⟩:=aP hj_86
    refine aU (λ(s_82:(List Log_)×Int)=>[]) (λ(s_82:(List Log_)×Int)=>[((ak 0),gB 6 Log_.enc s_82.1)]) (λ(k_77:Nat)=>(λ(s_82:(List Log_)×Int)=>[(0,(dV (ak 0) 6 s_82.1)),(14,(vI s_60.1)),(17,(vI s_82.2))])) (λs=>gQ s_60 s) o_85 nq_100 (data_1,m_3) hj_86 rfl (aC rfl) ?_ ?_
    ·rintro ⟨k_77,s_82⟩ hL_84
     dsimp only at hL_84
     cases k_77 with
     | zero=>cases hL_84
     | succ k_77 =>
      obtain ⟨c_,hc_83,hL_84⟩:=bind_some hL_84
      unfold gQ at hc_83
      refine au (aj (aa (vI s_82.2) (aa (vI s_60.1) (aa (vB (decide (s_82.2>s_60.1))) (af ?_)))))
      rcases ah hc_83 with⟨hc_87,hc_83⟩|⟨hc_87,hc_83⟩
      ·refine aB rfl hc_87 (ay (au (aI (aQ (aa (dV (ak 0) 6 s_82.1) (aa (vI s_82.2) (aa (dV (ak 0) 6 s_82.1) (aa (vI s_82.2) (aa (vI (w64 (s_82.2-1))) (aa (dV (ak 0) 6 s_82.1) (aa (vI s_82.2) (aa (vI (w64 (s_82.2-1))) ?_))))))))))))
       obtain ⟨_,hi_88,hc_83⟩:=bind_some hc_83
       refine aO bg rfl rfl (aW hi_88) (aM hi_88) wz ?_
       obtain ⟨e_89,hy_90,hc_83⟩:=bind_some hc_83
       refine aZ 9 0 (.inr (by kernel_rfl)) (λ_ _ ag=>trivial) bf bL rfl rfl hy_90 (.d (.agg (Log_.enc e_89))) rfl wz (aa (dV (ak 0) 6 s_82.1) (aa (vI s_82.2) ?_))
       obtain ⟨_,hi_91,hc_83⟩:=bind_some hc_83
       refine aO bg rfl rfl (aW hi_91) (aM hi_91) wz ?_
       obtain ⟨e_92,hy_93,hc_83⟩:=bind_some hc_83
       refine aZ 13 0 (.inr (by kernel_rfl)) (λ_ _ ag=>⟨.inl ⟨rfl,rfl⟩,trivial⟩) bf bL rfl rfl hy_93 (.d (.agg (Log_.enc e_92))) rfl wz ?_
       obtain ⟨_,hi_94,hc_83⟩:=bind_some hc_83
       refine aO bg rfl rfl (aW hi_94) (aM hi_94) wz ?_
       obtain ⟨e_95,hy_96,hc_83⟩:=bind_some hc_83
       refine cO 15 (.inr (by kernel_rfl)) (λ_ _ ag=>⟨.inr (.inr (by kernel_rfl)),⟨.inr (.inr (by kernel_rfl)),trivial⟩⟩) 0 bf rfl rfl hy_96 e_89 rfl wz (aF (v':=(dV (ak 0) 6 (s_82.1.set (0+(s_82.2).toNat) e_89))) 0 rfl (ax (by simp)) (aF (v':=(dV (ak 0) 6 (s_82.1.set (0+(s_82.2).toNat) e_89))) 113 rfl (ax (by simp)) (aF (v':=(dV (ak 0) 6 (s_82.1.set (0+(s_82.2).toNat) e_89))) 115 rfl (ax (by simp)) (aF (v':=(dV (ak 0) 6 (s_82.1.set (0+(s_82.2).toNat) e_89))) 118 rfl (ax (by simp)) (aF (v':=(dV (ak 0) 6 (s_82.1.set (0+(s_82.2).toNat) e_89))) 123 rfl (ax (by simp)) ?_)))))
       obtain ⟨_,hi_97,hc_83⟩:=bind_some hc_83
       refine aO bg rfl rfl (aW hi_97) (aM hi_97) wz ?_
       obtain ⟨e_98,hy_99,hc_83⟩:=bind_some hc_83
       refine cO 17 (.inr (by kernel_rfl)) (λ_ _ ag=>⟨.inr (.inr (by kernel_rfl)),⟨.inr (.inr (by kernel_rfl)),⟨.inr (.inr (by kernel_rfl)),trivial⟩⟩⟩) 0 bf rfl rfl hy_99 e_92 rfl wz (aF (v':=(dV (ak 0) 6 ((s_82.1.set (0+(s_82.2).toNat) e_89).set (0+((w64 (s_82.2-1))).toNat) e_92))) 0 rfl (ax (by simp)) (aF (v':=(dV (ak 0) 6 ((s_82.1.set (0+(s_82.2).toNat) e_89).set (0+((w64 (s_82.2-1))).toNat) e_92))) 113 rfl (ax (by simp)) (aF (v':=(dV (ak 0) 6 ((s_82.1.set (0+(s_82.2).toNat) e_89).set (0+((w64 (s_82.2-1))).toNat) e_92))) 115 rfl (ax (by simp)) (aF (v':=(dV (ak 0) 6 ((s_82.1.set (0+(s_82.2).toNat) e_89).set (0+((w64 (s_82.2-1))).toNat) e_92))) 118 rfl (ax (by simp)) (aF (v':=(dV (ak 0) 6 ((s_82.1.set (0+(s_82.2).toNat) e_89).set (0+((w64 (s_82.2-1))).toNat) e_92))) 123 rfl (ax (by simp)) (af (av (aa (vI s_82.2) (aa (vI (w64 (s_82.2-1))) (aa (vI (w64 (s_82.2-1))) (af ?_)))))))))))
       obtain rfl:=ae hc_83
       exact aK (k_77,(((s_82.1.set (0+(s_82.2).toNat) e_89).set (0+((w64 (s_82.2-1))).toNat) e_92),(w64 (s_82.2-1)))) hL_84 (ls_ _) rfl (aC rfl)
      ·refine aA rfl hc_87 (aV ?_)
       obtain rfl:=ae hc_83
       obtain rfl:=ae hL_84
       exact aX ((s_82.1,s_82.2)) rfl rfl (aC rfl)
    ·rintro s_82 ho_ sl_ H_ hp_ hq_
     subst ho_
     refine aJ _ hp_ hq_ ?_
     obtain rfl:=ae hF
     exact aN (jO (bs:=([]:List Box)) (os:=([]:List Box)) (xs:=data_1) (o:=gB 6 Log_.enc s_82.1) (.inr rfl) [] trivial rfl rfl rfl rfl rfl (by kernel_rfl) bM rfl)
  ·refine aA rfl hc_54 (ay (aj (aa (vI a_2) (aa (vI b_4) (aa (vI (w64 (a_2+b_4))) (bB un3 ib rfl wz ?_))))))
   obtain ⟨q_102,hz_103,hF⟩:=bind_some hF
   refine jI rfl rfl hz_103 wz (bB ib un3 rfl wz (aa (vI (w64 q_102)) (af (aj (aa (vI (w64 q_102)) (aa (vI m_3) (aa (vI (w64 ((w64 q_102)+m_3))) (aa (vI (w64 ((w64 q_102)+m_3))) (af (aj (aa (vI 0) (aa (vI 0) (af (au (aj (aa (vI m_3) (aa (vI (w64 q_102)) (aa (vB (decide (m_3>(w64 q_102)))) (af ?_)))))))))))))))))))
   obtain ⟨v_104,h_105,hF⟩:=bind_some hF
   refine aH [(0,(dV (ak 0) 6 data_1)),(1,(vI a_2)),(2,(vI m_3)),(3,(vI b_4)),(4,(.fn 33 [])),(18,(vI (w64 q_102))),(19,(vI (w64 ((w64 q_102)+m_3)))),(20,(vI v_104.1)),(21,(vI v_104.2))] [((ak 0),gB 6 Log_.enc data_1)] ?_ ?_
   ·rcases ah h_105 with⟨hc_106,h_105⟩|⟨hc_106,h_105⟩
    ·refine aB rfl hc_106 (aj (aa (vI (w64 ((w64 q_102)+m_3))) (aa (vI b_4) (aa (vI (w64 ((w64 ((w64 q_102)+m_3))-b_4))) (aa (vI (w64 ((w64 ((w64 q_102)+m_3))-b_4))) (af (av (aa (vI (w64 q_102)) (aa (vI (w64 q_102)) (af ?_))))))))))
     obtain rfl:=ae h_105
     exact cu
    ·refine aA rfl hc_106 (aj (aa (vI a_2) (aa (vI a_2) (af (av (aa (vI m_3) (aa (vI m_3) (af ?_))))))))
     obtain rfl:=ae h_105
     exact cu
   ·rintro ⟨⟩ _ sl_ H_ hp_ hq_
    refine aJ _ hp_ hq_ (aj (aa (vI (w64 ((w64 q_102)+m_3))) (aa (vI (w64 ((w64 ((w64 q_102)+m_3))-1))) (aa (vI (w64 ((w64 ((w64 q_102)+m_3))-1))) (af (au ?_))))))
    obtain ⟨o_115,hj_116,hF⟩:=bind_some hF
    obtain ⟨nq_154,hj_116⟩:=aP hj_116
    refine aU (λ(s_112:Int×Int)=>[(0,(dV (ak 0) 6 data_1)),(1,(vI a_2)),(2,(vI m_3)),(3,(vI b_4)),(4,(.fn 33 [])),(18,(vI (w64 q_102))),(19,(vI (w64 ((w64 q_102)+m_3)))),(20,(vI s_112.1))]) (λ(s_112:Int×Int)=>[((ak 0),gB 6 Log_.enc data_1)]) (λ(k_107:Nat)=>(λ(s_112:Int×Int)=>[(0,(dV (ak 0) 6 data_1)),(1,(vI a_2)),(2,(vI m_3)),(3,(vI b_4)),(4,(.fn 33 [])),(18,(vI (w64 q_102))),(19,(vI (w64 ((w64 q_102)+m_3)))),(20,(vI s_112.1)),(21,(vI s_112.2)),(22,(vI (w64 ((w64 ((w64 q_102)+m_3))-1))))])) (λs=>gU q_102 m_3 data_1 s) o_115 nq_154 (v_104.1,v_104.2) hj_116 rfl (aC rfl) ?_ ?_
    ·rintro ⟨k_107,s_112⟩ hL_114
     dsimp only at hL_114
     cases k_107 with
     | zero=>cases hL_114
     | succ k_107 =>
      obtain ⟨c_,hc_113,hL_114⟩:=bind_some hL_114
      unfold gU at hc_113
      refine au (aj (aa (vI s_112.1) (aa (vI s_112.2) (aa (vB (decide (s_112.1<s_112.2))) (af ?_)))))
      rcases ah hc_113 with⟨hc_117,hc_113⟩|⟨hc_117,hc_113⟩
      ·refine aB rfl hc_117 (ay (aI (aj (aa (vI s_112.1) (aa (vI s_112.2) (aa (vI (w64 (s_112.1+s_112.2))) (bB un3 ib rfl wz ?_)))))))
       obtain ⟨q_118,hz_119,hc_113⟩:=bind_some hc_113
       refine jI rfl rfl hz_119 wz (bB ib un3 rfl wz (aa (vI (w64 q_118)) (af (au (aQ (aa (.fn 33 []) (aa (dV (ak 0) 6 data_1) (aa (vI (w64 ((w64 ((w64 q_102)+m_3))-1))) (aa (vI (w64 q_118)) (aa (vI (w64 ((w64 ((w64 ((w64 q_102)+m_3))-1))-(w64 q_118)))) ?_))))))))))
       obtain ⟨_,hi_120,hc_113⟩:=bind_some hc_113
       refine aO bg rfl rfl (aW hi_120) (aM hi_120) wz ?_
       obtain ⟨e_121,hy_122,hc_113⟩:=bind_some hc_113
       refine aZ 6 0 (.inr (by kernel_rfl)) (λ_ _ ag=>trivial) bf bL rfl rfl hy_122 (.d (.agg (Log_.enc e_121))) rfl wz (aa (dV (ak 0) 6 data_1) (aa (vI (w64 q_118)) ?_))
       obtain ⟨_,hi_123,hc_113⟩:=bind_some hc_113
       refine aO bg rfl rfl (aW hi_123) (aM hi_123) wz ?_
       obtain ⟨e_124,hy_125,hc_113⟩:=bind_some hc_113
       refine aZ 10 0 (.inr (by kernel_rfl)) (λ_ _ ag=>⟨.inl ⟨rfl,rfl⟩,trivial⟩) bf bL rfl rfl hy_125 (.d (.agg (Log_.enc e_124))) rfl wz ?_
       obtain ⟨r_126,hr_127,hc_113⟩:=bind_some hc_113
       refine aG (bW hr_127) rfl uY rfl rfl rfl rfl wz (aa (vB (decide (r_126<0))) (aa (vB (!(decide (r_126<0)))) (af ?_)))
       rcases ah hc_113 with⟨hc_128,hc_113⟩|⟨hc_128,hc_113⟩
       ·refine aB rfl hc_128 (av (aa (vI (w64 q_118)) (aa (vI (w64 ((w64 q_118)+1))) (aa (vI (w64 ((w64 q_118)+1))) (af ?_)))))
        obtain rfl:=ae hc_113
        exact aK (k_107,((w64 ((w64 q_118)+1)),s_112.2)) hL_114 (ls_ _) rfl (aC rfl)
       ·refine aA rfl hc_128 (av (aa (vI (w64 q_118)) (aa (vI (w64 q_118)) (af ?_))))
        obtain rfl:=ae hc_113
        exact aK (k_107,(s_112.1,(w64 q_118))) hL_114 (ls_ _) rfl (aC rfl)
      ·refine aA rfl hc_117 (aV ?_)
       obtain rfl:=ae hc_113
       obtain rfl:=ae hL_114
       exact aX ((s_112.1,s_112.2)) rfl rfl (aC rfl)
    ·rintro s_112 ho_ sl_ H_ hp_ hq_
     subst ho_
     refine aJ _ hp_ hq_ (aj (aa (vI (w64 ((w64 q_102)+m_3))) (aa (vI s_112.1) (aa (vI (w64 ((w64 ((w64 q_102)+m_3))-s_112.1))) (aa (vI (w64 ((w64 ((w64 q_102)+m_3))-s_112.1))) (af (au (au ?_))))))))
     obtain ⟨v_129,h_130,hF⟩:=bind_some hF
     refine aH [(0,(dV (ak 0) 6 data_1)),(1,(vI a_2)),(2,(vI m_3)),(3,(vI b_4)),(4,(.fn 33 [])),(18,(vI (w64 q_102))),(20,(vI s_112.1)),(24,(vI (w64 ((w64 ((w64 q_102)+m_3))-s_112.1)))),(185,(vB v_129))] [((ak 0),gB 6 Log_.enc data_1)] ?_ ?_
     ·refine av (aa (vI s_112.1) (aa (vI m_3) (aa (vB (decide (s_112.1<m_3))) ?_)))
      rcases ah h_130 with⟨hc_131,h_130⟩|⟨hc_131,h_130⟩
      ·refine aD rfl hc_131 wz (aL (vI m_3) wa rfl (aL (vI (w64 ((w64 ((w64 q_102)+m_3))-s_112.1))) wa rfl (aL (vB (decide (m_3<(w64 ((w64 ((w64 q_102)+m_3))-s_112.1))))) wa rfl (aa (vB (decide (m_3<(w64 ((w64 ((w64 q_102)+m_3))-s_112.1))))) (af ?_)))))
       obtain rfl:=ae h_130
       exact cu
      ·refine aD rfl hc_131 wz (ai (ai (ai (aa (vB false) (af ?_)))))
       obtain rfl:=ae h_130
       exact cu
     ·rintro ⟨⟩ _ sl_ H_ hp_ hq_
      refine aJ _ hp_ hq_ ?_
      obtain ⟨v_132,h_133,hF⟩:=bind_some hF
      refine aH [(0,(dV (ak 0) 6 v_132)),(1,(vI a_2)),(3,(vI b_4)),(4,(.fn 33 [])),(18,(vI (w64 q_102))),(20,(vI s_112.1)),(24,(vI (w64 ((w64 ((w64 q_102)+m_3))-s_112.1))))] [((ak 0),gB 6 Log_.enc v_132)] ?_ ?_
      ·rcases ah h_133 with⟨hc_134,h_133⟩|⟨hc_134,h_133⟩
       ·refine aB rfl hc_134 (av (aa (dV (ak 0) 6 data_1) (aa (vI s_112.1) (aa (vI m_3) (aa (vI (w64 ((w64 ((w64 q_102)+m_3))-s_112.1))) (aa (.fn 33 []) ?_))))))
        obtain ⟨r_135,hr_136,h_133⟩:=bind_some h_133
        obtain ⟨_,hs_137,h_133⟩:=bind_some h_133
        replace hs_137:=bN hs_137
        refine bX 0 [] 0 0 il ft (dQ hr_136) rfl Eg rfl rfl rfl (by kernel_rfl) rfl (.inr (.inl rfl)) rfl (by kernel_rfl) (by kernel_rfl) (by kernel_rfl) (by kernel_rfl) rfl (by decide) (by kernel_rfl) bM (jb hs_137) wz ([((ak 0),gB 6 Log_.enc r_135)]:Hp) (by kernel_rfl) (aF (v':=(dV (ak 0) 6 r_135)) 0 rfl (ax hs_137.symm) (aF (v':=(dV (ak 0) 6 r_135)) 186 rfl (ax hs_137.symm) (af ?_)))
        obtain rfl:=ae h_133
        exact cu
       ·refine aA rfl hc_134 (ay ?_)
        obtain rfl:=ae h_133
        exact cu
      ·rintro ⟨⟩ _ sl_ H_ hp_ hq_
       refine aJ _ hp_ hq_ (au (au ?_))
       obtain ⟨v_138,h_139,hF⟩:=bind_some hF
       refine aH [(0,(dV (ak 0) 6 v_132)),(1,(vI a_2)),(3,(vI b_4)),(4,(.fn 33 [])),(18,(vI (w64 q_102))),(20,(vI s_112.1)),(24,(vI (w64 ((w64 ((w64 q_102)+m_3))-s_112.1)))),(199,(vB v_138))] [((ak 0),gB 6 Log_.enc v_132)] ?_ ?_
       ·refine av (aa (vI a_2) (aa (vI s_112.1) (aa (vB (decide (a_2<s_112.1))) ?_)))
        rcases ah h_139 with⟨hc_140,h_139⟩|⟨hc_140,h_139⟩
        ·refine aD rfl hc_140 wz (aL (vI s_112.1) wa rfl (aL (vI (w64 q_102)) wa rfl (aL (vB (decide (s_112.1<(w64 q_102)))) wa rfl (aa (vB (decide (s_112.1<(w64 q_102)))) (af ?_)))))
         obtain rfl:=ae h_139
         exact cu
        ·refine aD rfl hc_140 wz (ai (ai (ai (aa (vB false) (af ?_)))))
         obtain rfl:=ae h_139
         exact cu
       ·rintro ⟨⟩ _ sl_ H_ hp_ hq_
        refine aJ _ hp_ hq_ ?_
        obtain ⟨v_141,h_142,hF⟩:=bind_some hF
        refine aH [(0,(dV (ak 0) 6 v_141)),(3,(vI b_4)),(4,(.fn 33 [])),(18,(vI (w64 q_102))),(24,(vI (w64 ((w64 ((w64 q_102)+m_3))-s_112.1))))] [((ak 0),gB 6 Log_.enc v_141)] ?_ ?_
        ·rcases ah h_142 with⟨hc_143,h_142⟩|⟨hc_143,h_142⟩
         ·refine aB rfl hc_143 (av (aa (dV (ak 0) 6 v_132) (aa (vI a_2) (aa (vI s_112.1) (aa (vI (w64 q_102)) (aa (.fn 33 []) ?_))))))
          obtain ⟨r_144,hr_145,h_142⟩:=bind_some h_142
          obtain ⟨_,hs_146,h_142⟩:=bind_some h_142
          replace hs_146:=bN hs_146
          refine bX 0 [] 0 0 il ft (ji hr_145) rfl uC rfl rfl rfl (by kernel_rfl) rfl (.inr (.inl rfl)) rfl (by kernel_rfl) (by kernel_rfl) (by kernel_rfl) (by kernel_rfl) rfl (by decide) (by kernel_rfl) bM (jb hs_146) wz ([((ak 0),gB 6 Log_.enc r_144)]:Hp) (by kernel_rfl) (aF (v':=(dV (ak 0) 6 r_144)) 0 rfl (ax hs_146.symm) (aF (v':=(dV (ak 0) 6 r_144)) 200 rfl (ax hs_146.symm) (af ?_)))
          obtain rfl:=ae h_142
          exact cu
         ·refine aA rfl hc_143 (ay ?_)
          obtain rfl:=ae h_142
          exact cu
        ·rintro ⟨⟩ _ sl_ H_ hp_ hq_
         refine aJ _ hp_ hq_ (au ?_)
         obtain ⟨v_147,h_148,hF⟩:=bind_some hF
         refine aH [(0,(dV (ak 0) 6 v_141)),(3,(vI b_4)),(4,(.fn 33 [])),(18,(vI (w64 q_102))),(24,(vI (w64 ((w64 ((w64 q_102)+m_3))-s_112.1)))),(213,(vB v_147))] [((ak 0),gB 6 Log_.enc v_141)] ?_ ?_
         ·refine av (aa (vI (w64 q_102)) (aa (vI (w64 ((w64 ((w64 q_102)+m_3))-s_112.1))) (aa (vB (decide ((w64 q_102)<(w64 ((w64 ((w64 q_102)+m_3))-s_112.1))))) ?_)))
          rcases ah h_148 with⟨hc_149,h_148⟩|⟨hc_149,h_148⟩
          ·refine aD rfl hc_149 wz (aL (vI (w64 ((w64 ((w64 q_102)+m_3))-s_112.1))) wa rfl (aL (vI b_4) wa rfl (aL (vB (decide ((w64 ((w64 ((w64 q_102)+m_3))-s_112.1))<b_4))) wa rfl (aa (vB (decide ((w64 ((w64 ((w64 q_102)+m_3))-s_112.1))<b_4))) (af ?_)))))
           obtain rfl:=ae h_148
           exact cu
          ·refine aD rfl hc_149 wz (ai (ai (ai (aa (vB false) (af ?_)))))
           obtain rfl:=ae h_148
           exact cu
         ·rintro ⟨⟩ _ sl_ H_ hp_ hq_
          refine aJ _ hp_ hq_ ?_
          rcases ah hF with⟨hc_150,hF⟩|⟨hc_150,hF⟩
          ·refine aB rfl hc_150 (av (aa (dV (ak 0) 6 v_141) (aa (vI (w64 q_102)) (aa (vI (w64 ((w64 ((w64 q_102)+m_3))-s_112.1))) (aa (vI b_4) (aa (.fn 33 []) ?_))))))
           obtain ⟨r_151,hr_152,hF⟩:=bind_some hF
           obtain ⟨_,hs_153,hF⟩:=bind_some hF
           replace hs_153:=bN hs_153
           refine bX 0 [] 0 0 il ft (ji hr_152) rfl uC rfl rfl rfl (by kernel_rfl) rfl (.inr (.inl rfl)) rfl (by kernel_rfl) (by kernel_rfl) (by kernel_rfl) (by kernel_rfl) rfl (by decide) (by kernel_rfl) bM (jb hs_153) wz ([((ak 0),gB 6 Log_.enc r_151)]:Hp) (by kernel_rfl) (aF (v':=(dV (ak 0) 6 r_151)) 0 rfl (ax hs_153.symm) (aF (v':=(dV (ak 0) 6 r_151)) 214 rfl (ax hs_153.symm) (af ?_)))
           show lJ _ _ _ _ _ _ _ _
           obtain rfl:=ae hF
           exact jO (bs:=([]:List Box)) (os:=([]:List Box)) (xs:=data_1) (o:=gB 6 Log_.enc r_151) (.inl rfl) [] trivial rfl rfl rfl rfl rfl (by kernel_rfl) bM rfl
          ·refine aA rfl hc_150 (ay ?_)
           show lJ _ _ _ _ _ _ _ _
           obtain rfl:=ae hF
           exact jO (bs:=([]:List Box)) (os:=([]:List Box)) (xs:=data_1) (o:=gB 6 Log_.enc v_141) (.inl rfl) [] trivial rfl rfl rfl rfl rfl (by kernel_rfl) bM rfl
theorem mI {data_1:(List Log_)} {n_2:Int} {r:(List Log_)} (hF:fQ data_1 n_2=some r) :
  FnM Tryz.prog 40 [(dV (ak 0) 6 data_1),(vI n_2),(.fn 33 [])] (([]:List Box)++gI 6 Log_.enc data_1) (.tup []) (([]:List Box).map some++gT data_1 (gB 6 Log_.enc r)):=by
 refine FnM.of_wHv ⟨Tryz.prog,63,[],[]⟩ rfl Tryz.func40 rfl rfl (lb_ rfl) (by kernel_rfl) ?_
 unfold fQ at hF
 refine aj (aa (vI 20) (af (aj (aa (vI 20) (aa (vI 0) (aa (vI 20) (af (au ?_))))))))
 obtain ⟨o_12,hj_13,hF⟩:=bind_some hF
 obtain ⟨nq_54,hj_13⟩:=aP hj_13
 refine aU (λ(s_9:(List Log_)×Int×Int)=>[(0,(dV (ak 0) 6 s_9.1)),(1,(vI n_2)),(2,(.fn 33 [])),(6,(vI 20)),(7,(vI s_9.2.1))]) (λ(s_9:(List Log_)×Int×Int)=>[((ak 0),gB 6 Log_.enc s_9.1)]) (λ(k_4:Nat)=>(λ(s_9:(List Log_)×Int×Int)=>[(0,(dV (ak 0) 6 s_9.1)),(1,(vI n_2)),(2,(.fn 33 [])),(6,(vI 20)),(7,(vI s_9.2.1)),(8,(vI s_9.2.2))])) (λs=>iI n_2 s) o_12 nq_54 (data_1,0,20) hj_13 rfl (aC rfl) ?_ ?_
 ·rintro ⟨k_4,s_9⟩ hL_11
  dsimp only at hL_11
  cases k_4 with
  | zero=>cases hL_11
  | succ k_4 =>
   obtain ⟨c_,hc_10,hL_11⟩:=bind_some hL_11
   unfold iI at hc_10
   refine au (aj (aa (vI s_9.2.2) (aa (vI n_2) (aa (vB (decide (s_9.2.2<=n_2))) (af ?_)))))
   rcases ah hc_10 with⟨hc_14,hc_10⟩|⟨hc_14,hc_10⟩
   ·refine aB rfl hc_14 (ay (aI (aj (aa (dV (ak 0) 6 s_9.1) (aa (vI s_9.2.1) (aa (vI s_9.2.2) (aa (.fn 33 []) ?_)))))))
    obtain ⟨r_15,hr_16,hc_10⟩:=bind_some hc_10
    obtain ⟨_,hs_17,hc_10⟩:=bind_some hc_10
    replace hs_17:=bN hs_17
    refine bX 0 [] 0 0 il ft (iY hr_16) rfl hb56 rfl rfl rfl (by kernel_rfl) rfl (.inr (.inl rfl)) rfl (by kernel_rfl) (by kernel_rfl) (by kernel_rfl) (by kernel_rfl) rfl (by decide) (by kernel_rfl) bM (jb hs_17) wz ([((ak 0),gB 6 Log_.enc r_15)]:Hp) (by kernel_rfl) (aF (v':=(dV (ak 0) 6 r_15)) 0 rfl (ax hs_17.symm) (aF (v':=(dV (ak 0) 6 r_15)) 14 rfl (ax hs_17.symm) (af (aj (aa (vI s_9.2.2) (aa (vI s_9.2.2) (af (av (aa (vI s_9.2.2) (aa (vI 20) (aa (vI (w64 (s_9.2.2+20))) (aa (vI (w64 (s_9.2.2+20))) (af ?_)))))))))))))
    obtain rfl:=ae hc_10
    exact aK (k_4,(r_15,s_9.2.2,(w64 (s_9.2.2+20)))) hL_11 (ls_ _) rfl (aC rfl)
   ·refine aA rfl hc_14 (aV ?_)
    obtain rfl:=ae hc_10
    obtain rfl:=ae hL_11
    exact aX ((s_9.1,s_9.2.1,s_9.2.2)) rfl rfl (aC rfl)
 ·rintro s_9 ho_ sl_ H_ hp_ hq_
  subst ho_
  refine aJ _ hp_ hq_ (aj (aa (dV (ak 0) 6 s_9.1) (aa (vI s_9.2.1) (aa (vI n_2) (aa (.fn 33 []) ?_)))))
  obtain ⟨r_18,hr_19,hF⟩:=bind_some hF
  obtain ⟨_,hs_20,hF⟩:=bind_some hF
  replace hs_20:=bN hs_20
  refine bX 0 [] 0 0 il ft (iY hr_19) rfl hb56 rfl rfl rfl (by kernel_rfl) rfl (.inr (.inl rfl)) rfl (by kernel_rfl) (by kernel_rfl) (by kernel_rfl) (by kernel_rfl) rfl (by decide) (by kernel_rfl) bM (jb hs_20) wz ([((ak 0),gB 6 Log_.enc r_18)]:Hp) (by kernel_rfl) (aF (v':=(dV (ak 0) 6 r_18)) 0 rfl (ax hs_20.symm) (aF (v':=(dV (ak 0) 6 r_18)) 23 rfl (ax hs_20.symm) (af ?_)))
  obtain ⟨o_29,hj_30,hF⟩:=bind_some hF
  obtain ⟨nq_53,hj_30⟩:=aP hj_30
  refine aU (λ(s_26:(List Log_)×Int)=>[]) (λ(s_26:(List Log_)×Int)=>[((ak 0),gB 6 Log_.enc s_26.1)]) (λ(k_21:Nat)=>(λ(s_26:(List Log_)×Int)=>[(0,(dV (ak 0) 6 s_26.1)),(1,(vI n_2)),(2,(.fn 33 [])),(6,(vI s_26.2))])) (λs=>iL n_2 s) o_29 nq_53 (r_18,20) hj_30 rfl (aC rfl) ?_ ?_
  ·rintro ⟨k_21,s_26⟩ hL_28
   dsimp only at hL_28
   cases k_21 with
   | zero=>cases hL_28
   | succ k_21 =>
    obtain ⟨c_,hc_27,hL_28⟩:=bind_some hL_28
    unfold iL at hc_27
    refine au (aj (aa (vI s_26.2) (aa (vI n_2) (aa (vB (decide (s_26.2<n_2))) (af ?_)))))
    rcases ah hc_27 with⟨hc_31,hc_27⟩|⟨hc_31,hc_27⟩
    ·refine aB rfl hc_31 (ay (aI (aj (aa (vI s_26.2) (aa (vI (w64 (2*s_26.2))) (aa (vI 0) (aa (vI (w64 (2*s_26.2))) (af (au ?_)))))))))
     obtain ⟨o_40,hj_41,hc_27⟩:=bind_some hc_27
     obtain ⟨nq_52,hj_41⟩:=aP hj_41
     refine aU (λ(s_37:(List Log_)×Int×Int)=>[(0,(dV (ak 0) 6 s_37.1)),(1,(vI n_2)),(2,(.fn 33 [])),(6,(vI s_26.2)),(7,(vI s_37.2.1))]) (λ(s_37:(List Log_)×Int×Int)=>[((ak 0),gB 6 Log_.enc s_37.1)]) (λ(k_32:Nat)=>(λ(s_37:(List Log_)×Int×Int)=>[(0,(dV (ak 0) 6 s_37.1)),(1,(vI n_2)),(2,(.fn 33 [])),(6,(vI s_26.2)),(7,(vI s_37.2.1)),(8,(vI s_37.2.2))])) (λs=>iE n_2 s_26 s) o_40 nq_52 (s_26.1,0,(w64 (2*s_26.2))) hj_41 rfl (aC rfl) ?_ ?_
     ·rintro ⟨k_32,s_37⟩ hL_39
      dsimp only at hL_39
      cases k_32 with
      | zero=>cases hL_39
      | succ k_32 =>
       obtain ⟨c_,hc_38,hL_39⟩:=bind_some hL_39
       unfold iE at hc_38
       refine au (aj (aa (vI s_37.2.2) (aa (vI n_2) (aa (vB (decide (s_37.2.2<=n_2))) (af ?_)))))
       rcases ah hc_38 with⟨hc_42,hc_38⟩|⟨hc_42,hc_38⟩
       ·refine aB rfl hc_42 (ay (aI (aj (aa (dV (ak 0) 6 s_37.1) (aa (vI s_37.2.1) (aa (vI s_37.2.1) (aa (vI s_26.2) (aa (vI (w64 (s_37.2.1+s_26.2))) (aa (vI s_37.2.2) (aa (.fn 33 []) ?_))))))))))
        obtain ⟨r_43,hr_44,hc_38⟩:=bind_some hc_38
        obtain ⟨_,hs_45,hc_38⟩:=bind_some hc_38
        replace hs_45:=bN hs_45
        refine bX 0 [] 0 0 il ft (jJ hr_44) rfl uC rfl rfl rfl (by kernel_rfl) rfl (.inr (.inl rfl)) rfl (by kernel_rfl) (by kernel_rfl) (by kernel_rfl) (by kernel_rfl) rfl (by decide) (by kernel_rfl) bM (jb hs_45) wz ([((ak 0),gB 6 Log_.enc r_43)]:Hp) (by kernel_rfl) (aF (v':=(dV (ak 0) 6 r_43)) 0 rfl (ax hs_45.symm) (aF (v':=(dV (ak 0) 6 r_43)) 36 rfl (ax hs_45.symm) (af (aj (aa (vI s_37.2.2) (aa (vI s_37.2.2) (af (av (aa (vI s_37.2.2) (aa (vI s_26.2) (aa (vI (w64 (2*s_26.2))) (aa (vI (w64 (s_37.2.2+(w64 (2*s_26.2))))) (aa (vI (w64 (s_37.2.2+(w64 (2*s_26.2))))) (af ?_))))))))))))))
        obtain rfl:=ae hc_38
        exact aK (k_32,(r_43,s_37.2.2,(w64 (s_37.2.2+(w64 (2*s_26.2)))))) hL_39 (ls_ _) rfl (aC rfl)
       ·refine aA rfl hc_42 (aV ?_)
        obtain rfl:=ae hc_38
        obtain rfl:=ae hL_39
        exact aX ((s_37.1,s_37.2.1,s_37.2.2)) rfl rfl (aC rfl)
     ·rintro s_37 ho_ sl_ H_ hp_ hq_
      subst ho_
      refine aJ _ hp_ hq_ (au (aj (aa (vI s_37.2.1) (aa (vI s_26.2) (aa (vI (w64 (s_37.2.1+s_26.2))) (aa (vI (w64 (s_37.2.1+s_26.2))) (af (aj (aa (vI (w64 (s_37.2.1+s_26.2))) (aa (vI n_2) (aa (vB (decide ((w64 (s_37.2.1+s_26.2))<n_2))) (af ?_))))))))))))
      obtain ⟨v_46,h_47,hc_27⟩:=bind_some hc_27
      refine aH [(0,(dV (ak 0) 6 v_46)),(1,(vI n_2)),(2,(.fn 33 [])),(6,(vI s_26.2))] [((ak 0),gB 6 Log_.enc v_46)] ?_ ?_
      ·rcases ah h_47 with⟨hc_48,h_47⟩|⟨hc_48,h_47⟩
       ·refine aB rfl hc_48 (av (aa (dV (ak 0) 6 s_37.1) (aa (vI s_37.2.1) (aa (vI (w64 (s_37.2.1+s_26.2))) (aa (vI n_2) (aa (.fn 33 []) ?_))))))
        obtain ⟨r_49,hr_50,h_47⟩:=bind_some h_47
        obtain ⟨_,hs_51,h_47⟩:=bind_some h_47
        replace hs_51:=bN hs_51
        refine bX 0 [] 0 0 il ft (jJ hr_50) rfl uC rfl rfl rfl (by kernel_rfl) rfl (.inr (.inl rfl)) rfl (by kernel_rfl) (by kernel_rfl) (by kernel_rfl) (by kernel_rfl) rfl (by decide) (by kernel_rfl) bM (jb hs_51) wz ([((ak 0),gB 6 Log_.enc r_49)]:Hp) (by kernel_rfl) (aF (v':=(dV (ak 0) 6 r_49)) 0 rfl (ax hs_51.symm) (aF (v':=(dV (ak 0) 6 r_49)) 55 rfl (ax hs_51.symm) (af ?_)))
        obtain rfl:=ae h_47
        exact cu
       ·refine aA rfl hc_48 (ay ?_)
        obtain rfl:=ae h_47
        exact cu
      ·rintro ⟨⟩ _ sl_ H_ hp_ hq_
       refine aJ _ hp_ hq_ (av (aa (vI s_26.2) (aa (vI (w64 (s_26.2*2))) (aa (vI (w64 (s_26.2*2))) (af ?_)))))
       obtain rfl:=ae hc_27
       exact aK (k_21,(v_46,(w64 (s_26.2*2)))) hL_28 (ls_ _) rfl (aC rfl)
    ·refine aA rfl hc_31 (aV ?_)
     obtain rfl:=ae hc_27
     obtain rfl:=ae hL_28
     exact aX ((s_26.1,s_26.2)) rfl rfl (aC rfl)
  ·rintro s_26 ho_ sl_ H_ hp_ hq_
   subst ho_
   show lJ _ _ _ _ _ _ _ _
   obtain rfl:=ae hF
   exact uB (H0:=([((ak 0),gB 6 Log_.enc s_26.1)]:Hp)) (sl':=envS []) hq_ (jO (bs:=([]:List Box)) (os:=([]:List Box)) (xs:=data_1) (o:=gB 6 Log_.enc s_26.1) (.inl rfl) [] trivial rfl rfl rfl rfl rfl (by kernel_rfl) bM rfl)
theorem kZ {x_1:(List Log_)} {r:(List Log_)} (hF:bO x_1=some r) :
  FnM Tryz.prog 27 [(dV (ak 0) 6 x_1),(.fn 33 [])] (([]:List Box)++gI 6 Log_.enc x_1) (.tup []) (([]:List Box).map some++gT x_1 (gB 6 Log_.enc r)):=by
 refine FnM.of_wHv ⟨Tryz.prog,9,[],[]⟩ rfl Tryz.func27 rfl rfl (lb_ rfl) (by kernel_rfl) ?_
 unfold bO at hF
 refine av (aa (dV (ak 0) 6 x_1) (aa (dV (ak 0) 6 x_1) (Cj lK rfl wz (aa (.fn 33 []) ?_))))
 obtain ⟨r_3,hr_4,hF⟩:=bind_some hF
 obtain ⟨_,hs_5,hF⟩:=bind_some hF
 replace hs_5:=bN hs_5
 refine bX 0 [] 0 0 il ft (mI hr_4) rfl hb40 rfl rfl rfl (by kernel_rfl) rfl (.inr (.inl rfl)) rfl (by kernel_rfl) (by kernel_rfl) (by kernel_rfl) (by kernel_rfl) rfl (by decide) (by kernel_rfl) bM (jb hs_5) wz ([((ak 0),gB 6 Log_.enc r_3)]:Hp) (by kernel_rfl) (aF (v':=(dV (ak 0) 6 r_3)) 0 rfl (ax hs_5.symm) (aF (v':=(dV (ak 0) 6 r_3)) 4 rfl (ax hs_5.symm) (aF (v':=(dV (ak 0) 6 r_3)) 5 rfl (ax hs_5.symm) (af ?_))))
 show lJ _ _ _ _ _ _ _ _
 obtain rfl:=ae hF
 exact jO (bs:=([]:List Box)) (os:=([]:List Box)) (xs:=x_1) (o:=gB 6 Log_.enc r_3) (.inl rfl) [] trivial rfl rfl rfl rfl rfl (by kernel_rfl) bM rfl
theorem Aw {a_1:(List Log_)} {b_2:(List Log_)} {r:(List Log_)×Int} (hF:nS a_1 b_2=some r) :
  FnM Tryz.prog 14 [(vL Log_.enc a_1),(vL Log_.enc b_2)] [] (.tup [(vL Log_.enc r.1),(vI r.2)]) []:=by
 refine FnM.of_wH ⟨Tryz.prog,41,[],[]⟩ rfl Tryz.func14 rfl rfl (lb_ rfl) (by kernel_rfl) ?_
 unfold nS at hF
 refine aj (aa .nil (aa (vI 0) (af (aj (aa (vL Log_.enc a_1) (aa (vL Log_.enc b_2) (kL (([a_1,b_2]:List (List Log_)).map (eL Log_.enc)) es67 ez67 rfl rfl rfl rfl rfl wz ?_)))))))
 obtain ⟨r_3,hr_4,hF⟩:=bind_some hF
 refine yE [] (jP hr_4) rfl hb26 rfl (by kernel_rfl) (by kernel_rfl) (by kernel_rfl) (by kernel_rfl) (by kernel_rfl) rfl (by decide) (by kernel_rfl) wz ([]:Hp) (λ_=>by kernel_rfl) (λn_6=>aa (gV n_6 6 r_3) (af (aj (aa (gV n_6 6 r_3) ?_))))
 obtain ⟨r_7,hr_8,hF⟩:=bind_some hF
 obtain ⟨_,hs_9,hF⟩:=bind_some hF
 replace hs_9:=bN hs_9
 refine bX 0 [] 0 0 il ft (kZ hr_8) rfl hb27 rfl rfl rfl (by kernel_rfl) rfl (.inl rfl) rfl (by kernel_rfl) (by kernel_rfl) (by kernel_rfl) (by kernel_rfl) rfl (by decide) (by kernel_rfl) bM (jb hs_9) wz ([(n_6,gB 6 Log_.enc r_7)]:Hp) (by kernel_rfl) (aF (v':=(gV n_6 6 r_7)) 11 rfl (gX hs_9.symm) (aF (v':=(gV n_6 6 r_7)) 12 rfl (gX hs_9.symm) (aF (v':=(gV n_6 6 r_7)) 6 rfl (gX hs_9.symm) (af (aj (aa (gV n_6 6 r_7) ?_))))))
 obtain ⟨r_10,hr_11,hF⟩:=bind_some hF
 refine bX 0 [] 0 0 il ft (jL hr_11) rfl hb29 rfl rfl rfl (by kernel_rfl) rfl (.inl rfl) rfl (by kernel_rfl) (by kernel_rfl) (by kernel_rfl) (by kernel_rfl) rfl (by decide) (by kernel_rfl) vz (λ_=>rfl) wz ([(n_6,none)]:Hp) (by kernel_rfl) (aa (vL Log_.enc r_10) (af (au (aj (aa (vL Log_.enc r_10) (iT lK rfl wz (aa (vI 0) (af ?_))))))))
 obtain ⟨o_20,hj_21,hF⟩:=bind_some hF
 obtain ⟨hn_16,hj_21⟩:=dI hj_21
 refine jE (λ(s_17:Unit)=>[(6,(vL Log_.enc r_10))]) (λ(s_17:Unit)=>[(n_6,none)]) (λ(k_12:Nat)=>(λ(s_17:Unit)=>[(6,(vL Log_.enc r_10)),(17,(vI (r_10.length:Int))),(18,(vI (k_12:Int)))])) (λk x s=>jv r_10 k x s) o_20 r_10 () hj_21 rfl (aC rfl) ?_ ?_
 ·rintro ⟨k_12,l_13,s_17⟩ ⟨hL_19,hD_15⟩
  dsimp only at hL_19 hD_15
  cases l_13 with
  | nil =>
   obtain rfl:=ae hL_19
   refine aj (aa (vB (decide ((k_12:Int)<(r_10.length:Int)))) (af ?_))
   refine au (aA rfl (drop_nil hD_15) (aV ?_))
   exact aX (s_17) rfl rfl (aC rfl)
  | cons x_14 l_13 =>
   obtain ⟨c_,hc_18,hL_19⟩:=bind_some hL_19
   refine aj (aa (vB (decide ((k_12:Int)<(r_10.length:Int)))) (af ?_))
   refine au (aB rfl (iy hD_15) (ay ?_))
   unfold jv at hc_18
   refine au (aI (aj (aa (vI (k_12:Int)) (aa (vI (k_12:Int)) (af (au ?_))))))
   obtain ⟨v_22,h_23,hc_18⟩:=bind_some hc_18
   refine aH [(6,(vL Log_.enc r_10)),(17,(vI (r_10.length:Int))),(18,(vI (k_12:Int))),(35,(vB v_22))] [(n_6,none)] ?_ ?_
   ·refine aQ (aa (vI (k_12:Int)) (aa (vB (decide ((k_12:Int)>0))) ?_))
    rcases ah h_23 with⟨hc_24,h_23⟩|⟨hc_24,h_23⟩
    ·refine aD rfl hc_24 wz (aL (vL Log_.enc r_10) wa rfl (aL (vI (k_12:Int)) wa rfl (aL (vI (w64 ((k_12:Int)-1))) wa rfl ?_)))
     obtain ⟨y_25,hy_26,h_23⟩:=bind_some h_23
     refine jQ bg rfl rfl hy_26 rfl wa (fO bf bL rfl (.d (.agg (Log_.enc y_25))) rfl wa (aL (vL Log_.enc r_10) wa rfl (aL (vI (k_12:Int)) wa rfl (jQ bg rfl rfl (iW hD_15) rfl wa (fO bf bL rfl (.d (.agg (Log_.enc x_14))) rfl wa ?_)))))
     obtain ⟨r_27,hr_28,h_23⟩:=bind_some h_23
     refine aG (bW hr_28) rfl uY rfl rfl rfl rfl wa (aL (vB (r_27==0)) wa rfl (aa (vB (r_27==0)) (af ?_)))
     obtain rfl:=ae h_23
     exact cu
    ·refine aD rfl hc_24 wz (ai (ai (ai (ai (ai (ai (ai (ai (ai (ai (ai (aa (vB false) (af ?_)))))))))))))
     obtain rfl:=ae h_23
     exact cu
   ·rintro ⟨⟩ _ sl_ H_ hp_ hq_
    refine aJ _ hp_ hq_ ?_
    rcases ah hc_18 with⟨hc_29,hc_18⟩|⟨hc_29,hc_18⟩
    ·refine aB rfl hc_29 (aj (aa .nil (aa (vI 13) (af ?_))))
     obtain rfl:=ae hc_18
     obtain rfl:=ae hL_19
     obtain rfl:=ae hF
     exact aN (bz [.nil,(vI 13)] ⟨rfl,⟨rfl,trivial⟩⟩)
    ·refine aA rfl hc_29 (ay (av (lw (iB hD_15 hn_16) wz rfl (aa (vI ((k_12+1:Nat):Int)) (af ?_)))))
     obtain rfl:=ae hc_18
     exact aK (k_12+1,l_13,()) ⟨hL_19,bR hD_15⟩ (ls_ _) rfl (aC rfl)
 ·rintro s_17 ho_ sl_ H_ hp_ hq_
  subst ho_
  refine aJ _ hp_ hq_ (au (aj (aa (vL Log_.enc r_10) (iT lK rfl wz (aa (vB (decide ((r_10.length:Int)>2000))) (af ?_))))))
  rcases ah hF with⟨hc_30,hF⟩|⟨hc_30,hF⟩
  ·refine aB rfl hc_30 (aj (aa .nil (aa (vI 2) (af ?_))))
   obtain rfl:=ae hF
   exact aN (bz [.nil,(vI 2)] ⟨rfl,⟨rfl,trivial⟩⟩)
  ·refine aA rfl hc_30 (ay (aj (aa (vL Log_.enc r_10) (aa (vL Log_.enc r_10) (aa (vI 0) (af ?_))))))
   obtain rfl:=ae hF
   exact aN (bz [(vL Log_.enc r_10),(vI 0)] ⟨rfl,⟨rfl,trivial⟩⟩)
theorem yz {l_1:(List Log_)} {r:(List Int)} (hF:lZ l_1=some r) :
  FnM Tryz.prog 15 [(vL Log_.enc l_1)] [] (vL eI r) []:=by
 refine FnM.of_wH ⟨Tryz.prog,64,[],[]⟩ rfl Tryz.func15 rfl rfl (lb_ rfl) (by kernel_rfl) ?_
 unfold lZ at hF
 refine aj (aa .nil (af (aj (aa .nil (af (au (aj (aa (vL Log_.enc l_1) (iT lK rfl wz (aa (vI 0) (af (sH (λn_8 => ?_)))))))))))))
 obtain ⟨o_13,hj_14,hF⟩:=bind_some hF
 obtain ⟨hn_6,hj_14⟩:=dI hj_14
 refine nz (σ:=(List Int)) (N:=Nm) (λp=>(λ(s_7:List Int) (n_10:Nm)=>([(3,(gV n_10 1 s_7))]:SL_)) p.1 p.2) (λp=>(λ(s_7:List Int) (n_10:Nm)=>([(n_10,gB 1 eI s_7)]:Hp)) p.1 p.2) (λ(k_2:Nat)=>(λp=>(λ(s_7:List Int) (n_10:Nm)=>([(0,(vL Log_.enc l_1)),(3,(gV n_10 1 s_7)),(8,(vL Log_.enc l_1)),(9,(vI (l_1.length:Int))),(10,(vI (k_2:Int)))]:SL_)) p.1 p.2)) (λk x s=>kz l_1 k x s) o_13 l_1 (([]:List Int),n_8) hj_14 rfl (aC rfl) ?_ ?_
 ·rintro ⟨k_2,l_3,s_7,n_10⟩ ⟨hL_12,hD_5⟩
  dsimp only at hL_12 hD_5
  cases l_3 with
  | nil =>
   obtain rfl:=ae hL_12
   refine aj (aa (vB (decide ((k_2:Int)<(l_1.length:Int)))) (af ?_))
   refine au (aA rfl (drop_nil hD_5) (aV ?_))
   exact aX (s_7,n_10) rfl rfl (aC rfl)
  | cons x_4 l_3 =>
   obtain ⟨c_,hc_11,hL_12⟩:=bind_some hL_12
   refine aj (aa (vB (decide ((k_2:Int)<(l_1.length:Int)))) (af ?_))
   refine au (aB rfl (iy hD_5) (ay ?_))
   unfold kz at hc_11
   refine au (aI (aj (aa (vI (k_2:Int)) (jQ bg rfl rfl (iW hD_5) rfl wz (fO bf bL rfl (.d (.agg (Log_.enc x_4))) rfl wz (nk 0 (.inl rfl) z31 rfl wz (λn_15=>aa (vI (k_2:Int)) (qY 0 il ft 1 bf rfl rfl (Log_.v x_4) rfl wz (af (au (aQ (bD kH rfl 2 rfl wz (bE 1 1 (.inr (by kernel_rfl)) (λ_ _ ag=>trivial) sz3 ag3 rfl rfl (vI x_4.No) rfl wz (aa (vB (x_4.No==1)) (aa (vS (⟨#[]⟩:ByteArray)) (aa (vB (x_4.No==1)) (af (au (au ?_)))))))))))))))))))
   obtain ⟨v_16,h_17,hc_11⟩:=bind_some hc_11
   refine aH [(0,(vL Log_.enc l_1)),(3,(gV n_10 1 s_7)),(4,(vI (k_2:Int))),(5,(.ref n_15 0 0)),(6,(vS (⟨#[]⟩:ByteArray))),(7,(vB (x_4.No==1))),(8,(vL Log_.enc l_1)),(9,(vI (l_1.length:Int))),(10,(vI (k_2:Int))),(42,(vB v_16))] [(n_10,gB 1 eI s_7),(n_15,some (.cells 6 (Log_.v x_4)))] ?_ ?_
   ·refine aQ (aa (vI (k_2:Int)) (aa (vB (decide ((k_2:Int)>0))) ?_))
    rcases ah h_17 with⟨hc_18,h_17⟩|⟨hc_18,h_17⟩
    ·refine aD rfl hc_18 wz (aL (vL Log_.enc l_1) wa rfl (aL (vI (k_2:Int)) wa rfl (aL (vI (w64 ((k_2:Int)-1))) wa rfl ?_)))
     obtain ⟨y_19,hy_20,h_17⟩:=bind_some h_17
     refine jQ bg rfl rfl hy_20 rfl wa (oD kv rfl [.str y_19.Player,.str y_19.Item,.int .i64 y_19.No,.int .i64 y_19.Clock,.int .i64 y_19.Long,.str y_19.Sum] rfl rfl wa (fO sz9 ag9 rfl (vS y_19.Player) rfl wa (bD kv rfl 0 rfl wa (bE 10 1 (.inr (by kernel_rfl)) (λ_ _ ag=>trivial) sz9 ag9 rfl rfl (vS x_4.Player) rfl wa (aL (vB (sEq y_19.Player x_4.Player)) wa rfl (aa (vB (sEq y_19.Player x_4.Player)) ?_))))))
     rcases ah h_17 with⟨hc_21,h_17⟩|⟨hc_21,h_17⟩
     ·refine aD rfl hc_21 wz (aL (vL Log_.enc l_1) wa rfl (aL (vI (k_2:Int)) wa rfl (aL (vI (w64 ((k_2:Int)-1))) wa rfl ?_)))
      obtain ⟨y_22,hy_23,h_17⟩:=bind_some h_17
      refine jQ bg rfl rfl hy_23 rfl wa (oD kH rfl [.int .i64 y_22.No,.int .i64 y_22.Clock,.int .i64 y_22.Long,.str y_22.Sum] rfl rfl wa (fO sz3 ag3 rfl (vI y_22.No) rfl wa (aL (vI (w64 (y_22.No+1))) wa rfl (bD kH rfl 2 rfl wa (bE 22 1 (.inr (by kernel_rfl)) (λ_ _ ag=>⟨.inl ⟨rfl,rfl⟩,trivial⟩) sz3 ag3 rfl rfl (vI x_4.No) rfl wa (aL (vB ((w64 (y_22.No+1))==x_4.No)) wa rfl (aa (vB ((w64 (y_22.No+1))==x_4.No)) (af ?_))))))))
      obtain rfl:=ae h_17
      exact cu
     ·refine aD rfl hc_21 wz (ai (ai (ai (ai (ai (ai (ai (ai (ai (ai (aa (vB false) (af ?_))))))))))))
      obtain rfl:=ae h_17
      exact cu
    ·refine aD rfl hc_18 wz (ai (ai (ai (ai (ai (ai (ai (ai (ai (aa (vB false) (aa (vB false) (ai (ai (ai (ai (ai (ai (ai (ai (ai (ai (aa (vB false) (af ?_)))))))))))))))))))))))
     obtain rfl:=ae h_17
     exact cu
   ·rintro ⟨⟩ _ sl_ H_ hp_ hq_
    refine aJ _ hp_ hq_ ?_
    obtain ⟨v_24,h_25,hc_11⟩:=bind_some hc_11
    refine aH [(0,(vL Log_.enc l_1)),(3,(gV n_10 1 s_7)),(4,(vI (k_2:Int))),(5,(.ref n_15 0 0)),(6,(vS v_24.1)),(7,(vB v_24.2)),(8,(vL Log_.enc l_1)),(9,(vI (l_1.length:Int))),(10,(vI (k_2:Int)))] [(n_10,gB 1 eI s_7),(n_15,some (.cells 6 (Log_.v x_4)))] ?_ ?_
    ·rcases ah h_25 with⟨hc_26,h_25⟩|⟨hc_26,h_25⟩
     ·refine aB rfl hc_26 (av (aa (vL Log_.enc l_1) (aa (vI (k_2:Int)) (aa (vI (w64 ((k_2:Int)-1))) ?_))))
      obtain ⟨y_27,hy_28,h_25⟩:=bind_some h_25
      refine jQ bg rfl rfl hy_28 rfl wz (oD oH rfl [.str y_27.Sum] rfl rfl wz (fO sz9 ag9 rfl (vS y_27.Sum) rfl wz (aa (vS y_27.Sum) (aa (vB true) (af ?_)))))
      obtain rfl:=ae h_25
      exact cu
     ·refine aA rfl hc_26 (ay ?_)
      obtain rfl:=ae h_25
      exact cu
    ·rintro ⟨⟩ _ sl_ H_ hp_ hq_
     refine aJ _ hp_ hq_ (au ?_)
     obtain ⟨v_29,h_30,hc_11⟩:=bind_some hc_11
     refine aH [(0,(vL Log_.enc l_1)),(3,(gV n_10 1 s_7)),(4,(vI (k_2:Int))),(8,(vL Log_.enc l_1)),(9,(vI (l_1.length:Int))),(10,(vI (k_2:Int))),(57,(vB v_29))] [(n_10,gB 1 eI s_7),(n_15,some (.cells 6 (Log_.v x_4)))] ?_ ?_
     ·refine aQ (aa (vB v_24.2) ?_)
      rcases ah h_30 with⟨hc_31,h_30⟩|⟨hc_31,h_30⟩
      ·refine aD rfl hc_31 wz (bD oH rfl 5 rfl wa (bE 3 1 (.inr (by kernel_rfl)) (λ_ _ ag=>trivial) sz9 ag9 rfl rfl (vS x_4.Sum) rfl wa (aL (vS v_24.1) wa rfl (bE 5 1 (.inr (by kernel_rfl)) (λ_ _ ag=>⟨.inl ⟨rfl,rfl⟩,trivial⟩) bf bL rfl rfl (.d (.agg (Log_.enc x_4))) rfl wa ?_))))
       obtain ⟨r_32,hr_33,h_30⟩:=bind_some h_30
       refine aG (vR hr_33) rfl hb34 rfl rfl rfl rfl wa (aL (vB (sNe x_4.Sum r_32)) wa rfl (aa (vB (sNe x_4.Sum r_32)) (af ?_)))
       obtain rfl:=ae h_30
       exact cu
      ·refine aD rfl hc_31 wz (ai (ai (ai (ai (ai (ai (aa (vB false) (af ?_))))))))
       obtain rfl:=ae h_30
       exact cu
     ·rintro ⟨⟩ _ sl_ H_ hp_ hq_
      refine aJ _ hp_ hq_ ?_
      obtain ⟨v_34,h_35,hc_11⟩:=bind_some hc_11
      refine nu (β:=Nm) (λ(n_36:Nm)=>([(0,(vL Log_.enc l_1)),(3,(gV n_36 1 v_34)),(8,(vL Log_.enc l_1)),(9,(vI (l_1.length:Int))),(10,(vI (k_2:Int)))]:SL_)) (λ(n_36:Nm)=>([(n_36,gB 1 eI v_34),(n_15,some (.cells 6 (Log_.v x_4)))]:Hp)) (λ_=>True) ?_ ?_
      ·rcases ah h_35 with⟨hc_37,h_35⟩|⟨hc_37,h_35⟩
       ·refine aB rfl hc_37 (av (aa (gV n_10 1 s_7) (aa (vI (k_2:Int)) (kL (([(k_2:Int)]:List Int).map eI) sK y8 rfl rfl rfl rfl rfl wz ?_))))
        obtain ⟨a_38,hz_39,h_35⟩:=bind_some h_35
        refine qB 0 il ft (i:=0) Hd Hd sz3 z3 rfl (by decide) by3 (by decide) (λ_=>rfl) rfl rfl rfl hz_39 wz (λn_40=>aa (gV n_40 1 a_38) (af ?_))
        obtain rfl:=ae h_35
        exact aX n_40 trivial rfl (aC rfl)
       ·refine aA rfl hc_37 (ay ?_)
        obtain rfl:=ae h_35
        exact aX n_10 trivial rfl (aC rfl)
      ·rintro n_36 _ sl_ H_ hp_ hq_
       refine aJ _ hp_ hq_ (av (lw (iB hD_5 hn_6) wz rfl (aa (vI ((k_2+1:Nat):Int)) (af ?_))))
       obtain rfl:=ae hc_11
       exact aK (k_2+1,l_3,v_34,n_36) ⟨hL_12,bR hD_5⟩ (ls_ _) rfl (aC rfl)
 ·rintro ⟨s_7,n_10⟩ ho_ sl_ H_ hp_ hq_
  subst ho_
  refine aJ _ hp_ hq_ (aj (aa (gV n_10 1 s_7) (aa (gV n_10 1 s_7) (af (lT 0 rfl (jN 2 0 rfl rfl (jN 3 0 rfl rfl (jN 63 0 rfl rfl ?_))))))))
  obtain rfl:=ae hF
  exact aN (bz [(vL eI s_7)] ⟨rfl,trivial⟩)
theorem xA {l_1:(List Log_)} {r:(List Log_)} (hF:lG l_1=some r) :
  FnM Tryz.prog 16 [(vL Log_.enc l_1)] [] (vL Log_.enc r) []:=by
 refine FnM.of_wH ⟨Tryz.prog,51,[],[]⟩ rfl Tryz.func16 rfl rfl (lb_ rfl) (by kernel_rfl) ?_
 unfold lG at hF
 refine aj (aa .nil (af (aj (aa .nil (af (au (aj (aa (vL Log_.enc l_1) (iT lK rfl wz (aa (vI 0) (af (sH (λn_8 => ?_)))))))))))))
 obtain ⟨o_13,hj_14,hF⟩:=bind_some hF
 obtain ⟨hn_6,hj_14⟩:=dI hj_14
 refine nz (σ:=(List Log_)) (N:=Nm) (λp=>(λ(s_7:List Log_) (n_10:Nm)=>([(3,(gV n_10 6 s_7))]:SL_)) p.1 p.2) (λp=>(λ(s_7:List Log_) (n_10:Nm)=>([(n_10,gB 6 Log_.enc s_7)]:Hp)) p.1 p.2) (λ(k_2:Nat)=>(λp=>(λ(s_7:List Log_) (n_10:Nm)=>([(0,(vL Log_.enc l_1)),(3,(gV n_10 6 s_7)),(7,(vL Log_.enc l_1)),(8,(vI (l_1.length:Int))),(9,(vI (k_2:Int)))]:SL_)) p.1 p.2)) (λk x s=>jT l_1 k x s) o_13 l_1 (([]:List Log_),n_8) hj_14 rfl (aC rfl) ?_ ?_
 ·rintro ⟨k_2,l_3,s_7,n_10⟩ ⟨hL_12,hD_5⟩
  dsimp only at hL_12 hD_5
  cases l_3 with
  | nil =>
   obtain rfl:=ae hL_12
   refine aj (aa (vB (decide ((k_2:Int)<(l_1.length:Int)))) (af ?_))
   refine au (aA rfl (drop_nil hD_5) (aV ?_))
   exact aX (s_7,n_10) rfl rfl (aC rfl)
  | cons x_4 l_3 =>
   obtain ⟨c_,hc_11,hL_12⟩:=bind_some hL_12
   refine aj (aa (vB (decide ((k_2:Int)<(l_1.length:Int)))) (af ?_))
   refine au (aB rfl (iy hD_5) (ay ?_))
   unfold jT at hc_11
   refine au (aI (aj (aa (vI (k_2:Int)) (jQ bg rfl rfl (iW hD_5) rfl wz (fO bf bL rfl (.d (.agg (Log_.enc x_4))) rfl wz (nk 0 (.inl rfl) z31 rfl wz (λn_15=>aa (vI (k_2:Int)) (qY 0 il ft 1 bf rfl rfl (Log_.v x_4) rfl wz (af (aj (aa (vI 1) (af (au (au ?_))))))))))))))
   obtain ⟨v_16,h_17,hc_11⟩:=bind_some hc_11
   refine aH [(0,(vL Log_.enc l_1)),(3,(gV n_10 6 s_7)),(4,(vI (k_2:Int))),(5,(.ref n_15 0 0)),(6,(vI 1)),(7,(vL Log_.enc l_1)),(8,(vI (l_1.length:Int))),(9,(vI (k_2:Int))),(26,(vB v_16))] [(n_10,gB 6 Log_.enc s_7),(n_15,some (.cells 6 (Log_.v x_4)))] ?_ ?_
   ·refine aQ (aa (vI (k_2:Int)) (aa (vB (decide ((k_2:Int)>0))) ?_))
    rcases ah h_17 with⟨hc_18,h_17⟩|⟨hc_18,h_17⟩
    ·refine aD rfl hc_18 wz (aL (vL Log_.enc l_1) wa rfl (aL (vI (k_2:Int)) wa rfl (aL (vI (w64 ((k_2:Int)-1))) wa rfl ?_)))
     obtain ⟨y_19,hy_20,h_17⟩:=bind_some h_17
     refine jQ bg rfl rfl hy_20 rfl wa (oD kv rfl [.str y_19.Player,.str y_19.Item,.int .i64 y_19.No,.int .i64 y_19.Clock,.int .i64 y_19.Long,.str y_19.Sum] rfl rfl wa (fO sz9 ag9 rfl (vS y_19.Player) rfl wa (bD kv rfl 0 rfl wa (bE 10 1 (.inr (by kernel_rfl)) (λ_ _ ag=>trivial) sz9 ag9 rfl rfl (vS x_4.Player) rfl wa (aL (vB (sEq y_19.Player x_4.Player)) wa rfl (aa (vB (sEq y_19.Player x_4.Player)) (af ?_)))))))
     obtain rfl:=ae h_17
     exact cu
    ·refine aD rfl hc_18 wz (ai (ai (ai (ai (ai (ai (ai (ai (ai (aa (vB false) (af ?_)))))))))))
     obtain rfl:=ae h_17
     exact cu
   ·rintro ⟨⟩ _ sl_ H_ hp_ hq_
    refine aJ _ hp_ hq_ ?_
    obtain ⟨v_21,h_22,hc_11⟩:=bind_some hc_11
    refine aH [(0,(vL Log_.enc l_1)),(3,(gV n_10 6 s_7)),(5,(.ref n_15 0 0)),(6,(vI v_21)),(7,(vL Log_.enc l_1)),(8,(vI (l_1.length:Int))),(9,(vI (k_2:Int)))] [(n_10,gB 6 Log_.enc s_7),(n_15,some (.cells 6 (Log_.v x_4)))] ?_ ?_
    ·rcases ah h_22 with⟨hc_23,h_22⟩|⟨hc_23,h_22⟩
     ·refine aB rfl hc_23 (av (aa (vL Log_.enc l_1) (aa (vI (k_2:Int)) (aa (vI (w64 ((k_2:Int)-1))) ?_))))
      obtain ⟨y_24,hy_25,h_22⟩:=bind_some h_22
      refine jQ bg rfl rfl hy_25 rfl wz (oD kH rfl [.int .i64 y_24.No,.int .i64 y_24.Clock,.int .i64 y_24.Long,.str y_24.Sum] rfl rfl wz (fO sz3 ag3 rfl (vI y_24.No) rfl wz (aa (vI (w64 (y_24.No+1))) (aa (vI (w64 (y_24.No+1))) (af ?_)))))
      obtain rfl:=ae h_22
      exact cu
     ·refine aA rfl hc_23 (ay ?_)
      obtain rfl:=ae h_22
      exact cu
    ·rintro ⟨⟩ _ sl_ H_ hp_ hq_
     refine aJ _ hp_ hq_ (aj (aa (vI v_21) (bD kH rfl 2 rfl wz (bE 0 1 il ft sz3 ag3 rfl rfl (vI x_4.No) rfl wz (aa (vB (decide (v_21<x_4.No))) (af ?_))))))
     obtain ⟨v_26,h_27,hc_11⟩:=bind_some hc_11
     refine nu (β:=Nm) (λ(n_28:Nm)=>([(0,(vL Log_.enc l_1)),(3,(gV n_28 6 v_26)),(7,(vL Log_.enc l_1)),(8,(vI (l_1.length:Int))),(9,(vI (k_2:Int)))]:SL_)) (λ(n_28:Nm)=>([(n_28,gB 6 Log_.enc v_26),(n_15,some (.cells 6 (Log_.v x_4)))]:Hp)) (λ_=>True) ?_ ?_
     ·rcases ah h_27 with⟨hc_29,h_27⟩|⟨hc_29,h_27⟩
      ·refine aB rfl hc_29 (av (aa (gV n_10 6 s_7) (bD kv rfl 0 rfl wz (bE 0 1 il ft sz9 ag9 rfl rfl (vS x_4.Player) rfl wz (aa (vI v_21) (bD kH rfl 2 rfl wz (bE 0 1 il ft sz3 ag3 rfl rfl (vI x_4.No) rfl wz (aa (vI v_21) (aa (vI (w64 (x_4.No-v_21))) (aL (.d (.agg (Log_.enc (⟨x_4.Player,(⟨#[]⟩:ByteArray),v_21,0,(w64 (x_4.No-v_21)),(⟨#[]⟩:ByteArray)⟩:Log_)))) wz (by kernel_rfl) (kL (([(⟨x_4.Player,(⟨#[]⟩:ByteArray),v_21,0,(w64 (x_4.No-v_21)),(⟨#[]⟩:ByteArray)⟩:Log_)]:List Log_).map Log_.enc) bg ez26 rfl rfl rfl rfl rfl wz ?_)))))))))))
       obtain ⟨a_30,hz_31,h_27⟩:=bind_some h_27
       refine qB 0 il ft (i:=0) wh wh bf z31 rfl (by decide) GK (by decide) (λ_=>rfl) rfl rfl rfl hz_31 wz (λn_32=>aa (gV n_32 6 a_30) (af ?_))
       obtain rfl:=ae h_27
       exact aX n_32 trivial rfl (aC rfl)
      ·refine aA rfl hc_29 (ay ?_)
       obtain rfl:=ae h_27
       exact aX n_10 trivial rfl (aC rfl)
     ·rintro n_28 _ sl_ H_ hp_ hq_
      refine aJ _ hp_ hq_ (av (lw (iB hD_5 hn_6) wz rfl (aa (vI ((k_2+1:Nat):Int)) (af ?_))))
      obtain rfl:=ae hc_11
      exact aK (k_2+1,l_3,v_26,n_28) ⟨hL_12,bR hD_5⟩ (ls_ _) rfl (aC rfl)
 ·rintro ⟨s_7,n_10⟩ ho_ sl_ H_ hp_ hq_
  subst ho_
  refine aJ _ hp_ hq_ (aj (aa (gV n_10 6 s_7) (aa (gV n_10 6 s_7) (af (lT 0 rfl (jN 2 0 rfl rfl (jN 3 0 rfl rfl (jN 50 0 rfl rfl ?_))))))))
  obtain rfl:=ae hF
  exact aN (bz [(vL Log_.enc s_7)] ⟨rfl,trivial⟩)
theorem kK {s1_1:(List Log_)} {s2_2:(List Log_)} {r:Bool} (hF:dw s1_1 s2_2=some r) :
  FnM Tryz.prog 17 [(vL Log_.enc s1_1),(vL Log_.enc s2_2)] [] (vB r) []:=by
 refine FnM.of_wH ⟨Tryz.prog,26,[],[]⟩ rfl Tryz.func17 rfl rfl (lb_ rfl) (by kernel_rfl) ?_
 unfold dw at hF
 refine aj (aa (vB false) (af (au (aj (aa (vL Log_.enc s1_1) (iT lK rfl wz (aa (vL Log_.enc s2_2) (iT lK rfl wz (aa (vB ((s1_1.length:Int) != (s2_2.length:Int))) (af ?_))))))))))
 rcases ah hF with⟨hc_3,hF⟩|⟨hc_3,hF⟩
 ·refine aB rfl hc_3 (aj (aa (vB false) (af ?_)))
  obtain rfl:=ae hF
  exact aN (bz [(vB false)] ⟨rfl,trivial⟩)
 ·refine aA rfl hc_3 (ay (au (aj (aa (vL Log_.enc s1_1) (iT lK rfl wz (aa (vI 0) (af ?_)))))))
  obtain ⟨o_12,hj_13,hF⟩:=bind_some hF
  obtain ⟨hn_8,hj_13⟩:=dI hj_13
  refine jE (λ(s_9:Unit)=>[]) (λ(s_9:Unit)=>[]) (λ(k_4:Nat)=>(λ(s_9:Unit)=>[(0,(vL Log_.enc s1_1)),(1,(vL Log_.enc s2_2)),(12,(vI (s1_1.length:Int))),(13,(vI (k_4:Int)))])) (λk x s=>bZ s2_2 k x s) o_12 s1_1 () hj_13 rfl (aC rfl) ?_ ?_
  ·rintro ⟨k_4,l_5,s_9⟩ ⟨hL_11,hD_7⟩
   dsimp only at hL_11 hD_7
   cases l_5 with
   | nil =>
    obtain rfl:=ae hL_11
    refine aj (aa (vB (decide ((k_4:Int)<(s1_1.length:Int)))) (af ?_))
    refine au (aA rfl (drop_nil hD_7) (aV ?_))
    exact aX (s_9) rfl rfl (aC rfl)
   | cons x_6 l_5 =>
    obtain ⟨c_,hc_10,hL_11⟩:=bind_some hL_11
    refine aj (aa (vB (decide ((k_4:Int)<(s1_1.length:Int)))) (af ?_))
    refine au (aB rfl (iy hD_7) (ay ?_))
    unfold bZ at hc_10
    refine au (aI (aj (aa (vI (k_4:Int)) (aa (vI (k_4:Int)) (af (au (aQ (aa (vL Log_.enc s1_1) (aa (vI (k_4:Int)) (jQ bg rfl rfl (iW hD_7) rfl wz (fO bf bL rfl (.d (.agg (Log_.enc x_6))) rfl wz (aa (vL Log_.enc s2_2) (aa (vI (k_4:Int)) ?_)))))))))))))
    obtain ⟨y_14,hy_15,hc_10⟩:=bind_some hc_10
    refine jQ bg rfl rfl hy_15 rfl wz (fO bf bL rfl (.d (.agg (Log_.enc y_14))) rfl wz (aL (vB (!((x_6.Player.toList==y_14.Player.toList)&&((x_6.Item.toList==y_14.Item.toList)&&((x_6.No==y_14.No)&&((x_6.Clock==y_14.Clock)&&((x_6.Long==y_14.Long)&&((x_6.Sum.toList==y_14.Sum.toList)&&true)))))))) wz (by kernel_rfl) (af ?_)))
    rcases ah hc_10 with⟨hc_16,hc_10⟩|⟨hc_16,hc_10⟩
    ·refine aB rfl hc_16 (aj (aa (vB false) (af ?_)))
     obtain rfl:=ae hc_10
     obtain rfl:=ae hL_11
     obtain rfl:=ae hF
     exact aN (bz [(vB false)] ⟨rfl,trivial⟩)
    ·refine aA rfl hc_16 (ay (av (lw (iB hD_7 hn_8) wz rfl (aa (vI ((k_4+1:Nat):Int)) (af ?_)))))
     obtain rfl:=ae hc_10
     exact aK (k_4+1,l_5,()) ⟨hL_11,bR hD_7⟩ (ls_ _) rfl (aC rfl)
  ·rintro s_9 ho_ sl_ H_ hp_ hq_
   subst ho_
   refine aJ _ hp_ hq_ (aj (aa (vB true) (af ?_)))
   obtain rfl:=ae hF
   exact aN (bz [(vB true)] ⟨rfl,trivial⟩)
theorem qQ {s1_1:(List Int)} {s2_2:(List Int)} {r:Bool} (hF:jy s1_1 s2_2=some r) :
  FnM Tryz.prog 18 [(vL eI s1_1),(vL eI s2_2)] [] (vB r) []:=by
 refine FnM.of_wH ⟨Tryz.prog,26,[],[]⟩ rfl Tryz.func18 rfl rfl (lb_ rfl) (by kernel_rfl) ?_
 unfold jy at hF
 refine aj (aa (vB false) (af (au (aj (aa (vL eI s1_1) (iT CL rfl wz (aa (vL eI s2_2) (iT CL rfl wz (aa (vB ((s1_1.length:Int) != (s2_2.length:Int))) (af ?_))))))))))
 rcases ah hF with⟨hc_3,hF⟩|⟨hc_3,hF⟩
 ·refine aB rfl hc_3 (aj (aa (vB false) (af ?_)))
  obtain rfl:=ae hF
  exact aN (bz [(vB false)] ⟨rfl,trivial⟩)
 ·refine aA rfl hc_3 (ay (au (aj (aa (vL eI s1_1) (iT CL rfl wz (aa (vI 0) (af ?_)))))))
  obtain ⟨o_12,hj_13,hF⟩:=bind_some hF
  obtain ⟨hn_8,hj_13⟩:=dI hj_13
  refine jE (λ(s_9:Unit)=>[]) (λ(s_9:Unit)=>[]) (λ(k_4:Nat)=>(λ(s_9:Unit)=>[(0,(vL eI s1_1)),(1,(vL eI s2_2)),(12,(vI (s1_1.length:Int))),(13,(vI (k_4:Int)))])) (λk x s=>fM s2_2 k x s) o_12 s1_1 () hj_13 rfl (aC rfl) ?_ ?_
  ·rintro ⟨k_4,l_5,s_9⟩ ⟨hL_11,hD_7⟩
   dsimp only at hL_11 hD_7
   cases l_5 with
   | nil =>
    obtain rfl:=ae hL_11
    refine aj (aa (vB (decide ((k_4:Int)<(s1_1.length:Int)))) (af ?_))
    refine au (aA rfl (drop_nil hD_7) (aV ?_))
    exact aX (s_9) rfl rfl (aC rfl)
   | cons x_6 l_5 =>
    obtain ⟨c_,hc_10,hL_11⟩:=bind_some hL_11
    refine aj (aa (vB (decide ((k_4:Int)<(s1_1.length:Int)))) (af ?_))
    refine au (aB rfl (iy hD_7) (ay ?_))
    unfold fM at hc_10
    refine au (aI (aj (aa (vI (k_4:Int)) (aa (vI (k_4:Int)) (af (au (aQ (aa (vL eI s1_1) (aa (vI (k_4:Int)) (jQ sK rfl rfl (iW hD_7) rfl wz (fO sz3 ag3 rfl (vI x_6) rfl wz (aa (vL eI s2_2) (aa (vI (k_4:Int)) ?_)))))))))))))
    obtain ⟨y_14,hy_15,hc_10⟩:=bind_some hc_10
    refine jQ sK rfl rfl hy_15 rfl wz (fO sz3 ag3 rfl (vI y_14) rfl wz (aa (vB (x_6 != y_14)) (af ?_)))
    rcases ah hc_10 with⟨hc_16,hc_10⟩|⟨hc_16,hc_10⟩
    ·refine aB rfl hc_16 (aj (aa (vB false) (af ?_)))
     obtain rfl:=ae hc_10
     obtain rfl:=ae hL_11
     obtain rfl:=ae hF
     exact aN (bz [(vB false)] ⟨rfl,trivial⟩)
    ·refine aA rfl hc_16 (ay (av (lw (iB hD_7 hn_8) wz rfl (aa (vI ((k_4+1:Nat):Int)) (af ?_)))))
     obtain rfl:=ae hc_10
     exact aK (k_4+1,l_5,()) ⟨hL_11,bR hD_7⟩ (ls_ _) rfl (aC rfl)
  ·rintro s_9 ho_ sl_ H_ hp_ hq_
   subst ho_
   refine aJ _ hp_ hq_ (aj (aa (vB true) (af ?_)))
   obtain rfl:=ae hF
   exact aN (bz [(vB true)] ⟨rfl,trivial⟩)
theorem lF {n_1:Int} {r:Bool} (hF:jr n_1=some r) :
  FnM Tryz.prog 66 [(vI n_1)] [] (vB r) []:=by
 refine FnM.of_wH ⟨Tryz.prog,9,[],[]⟩ rfl Tryz.func66 rfl rfl (lb_ rfl) (by kernel_rfl) ?_
 unfold jr at hF
 refine aj (aa (vB false) (af (au ?_)))
 obtain ⟨v_2,h_3,hF⟩:=bind_some hF
 refine aH [(2,(vB v_2))] [] ?_ ?_
 ·refine av (aa (vI n_1) (aa (vB (decide (n_1>=0))) ?_))
  rcases ah h_3 with⟨hc_4,h_3⟩|⟨hc_4,h_3⟩
  ·refine aD rfl hc_4 wz (aL (vI n_1) wa rfl (aL (vB (decide (n_1<345686400000))) wa rfl (aa (vB (decide (n_1<345686400000))) (aa (vB (decide (n_1<345686400000))) (af ?_)))))
   obtain rfl:=ae h_3
   exact cu
  ·refine aD rfl hc_4 wz (ai (ai (aa (vB false) (aa (vB false) (af ?_)))))
   obtain rfl:=ae h_3
   exact cu
 ·rintro ⟨⟩ _ sl_ H_ hp_ hq_
  refine aJ _ hp_ hq_ ?_
  obtain rfl:=ae hF
  exact aN (bz [(vB v_2)] ⟨rfl,trivial⟩)
theorem sw {a_1:Beat} {b_2:Beat} {r:Int} (hF:jZ a_1 b_2=some r) :
  FnM Tryz.prog 88 [(.d (.agg (Beat.enc a_1))),(.d (.agg (Beat.enc b_2)))] [] (vI r) []:=by
 refine FnM.of_wH ⟨Tryz.prog,17,[],[]⟩ rfl Tryz.func88 rfl rfl (lb_ rfl) (by kernel_rfl) ?_
 unfold jZ at hF
 refine aj (q8 0 (.inl rfl) (Beat.v a_1) rfl rfl wz (λn_3=>q8 0 (.inl rfl) (Beat.v b_2) rfl rfl wz (λn_4=>aa (vI 0) (af (au (aQ (bD xh rfl 0 rfl wz (bE 1 0 (.inr (by kernel_rfl)) (λ_ _ ag=>trivial) sz9 ag9 rfl rfl (vS a_1.Player) rfl wz (bD xh rfl 0 rfl wz (bE 3 1 (.inr (by kernel_rfl)) (λ_ _ ag=>⟨.inl ⟨rfl,rfl⟩,trivial⟩) sz9 ag9 rfl rfl (vS b_2.Player) rfl wz ?_))))))))))
 obtain ⟨r_5,hr_6,hF⟩:=bind_some hF
 refine aG (mF hr_6) rfl hb42 rfl rfl rfl rfl wz (bD yY rfl 1 rfl wz (bE 6 0 (.inr (by kernel_rfl)) (λ_ _ ag=>⟨.inl ⟨rfl,rfl⟩,⟨.inl ⟨rfl,rfl⟩,trivial⟩⟩) sz3 ag3 rfl rfl (vI a_1.At) rfl wz (bD yY rfl 1 rfl wz (bE 8 1 (.inr (by kernel_rfl)) (λ_ _ ag=>⟨.inl ⟨rfl,rfl⟩,⟨.inl ⟨rfl,rfl⟩,⟨.inl ⟨rfl,rfl⟩,trivial⟩⟩⟩) sz3 ag3 rfl rfl (vI b_2.At) rfl wz ?_))))
 obtain ⟨r_7,hr_8,hF⟩:=bind_some hF
 refine aG (pF hr_8) rfl hb43 rfl rfl rfl rfl wz (kL (([r_5,r_7]:List Int).map eI) sK y8 rfl rfl rfl rfl rfl wz ?_)
 obtain ⟨r_9,hr_10,hF⟩:=bind_some hF
 refine aG (uF hr_10) rfl hb41 rfl rfl rfl rfl wz (aa (vI r_9) (af ?_))
 obtain rfl:=ae hF
 exact aN (bz [(vI r_9)] ⟨rfl,trivial⟩)
theorem uE {l_1:(List Beat)} {r:Int} (hF:kR l_1=some r) :
  FnM Tryz.prog 65 [(vL Beat.enc l_1)] [] (vI r) []:=by
 refine FnM.of_wH ⟨Tryz.prog,69,[],[]⟩ rfl Tryz.func65 rfl rfl (lb_ rfl) (by kernel_rfl) ?_
 unfold kR at hF
 refine aj (aa (vI 0) (af (au (aj (aa (vL Beat.enc l_1) (iT un63 rfl wz (aa (vB (decide ((l_1.length:Int)>500))) (af ?_))))))))
 rcases ah hF with⟨hc_2,hF⟩|⟨hc_2,hF⟩
 ·refine aB rfl hc_2 (aj (aa (vI 2) (af ?_)))
  obtain rfl:=ae hF
  exact aN (bz [(vI 2)] ⟨rfl,trivial⟩)
 ·refine aA rfl hc_2 (ay (au (aj (aa (vL Beat.enc l_1) (iT un63 rfl wz (aa (vI 0) (af ?_)))))))
  obtain ⟨o_11,hj_12,hF⟩:=bind_some hF
  obtain ⟨hn_7,hj_12⟩:=dI hj_12
  refine jE (λ(s_8:Unit)=>[]) (λ(s_8:Unit)=>[]) (λ(k_3:Nat)=>(λ(s_8:Unit)=>[(0,(vL Beat.enc l_1)),(8,(vL Beat.enc l_1)),(9,(vI (l_1.length:Int))),(10,(vI (k_3:Int)))])) (λk x s=>kM l_1 k x s) o_11 l_1 () hj_12 rfl (aC rfl) ?_ ?_
  ·rintro ⟨k_3,l_4,s_8⟩ ⟨hL_10,hD_6⟩
   dsimp only at hL_10 hD_6
   cases l_4 with
   | nil =>
    obtain rfl:=ae hL_10
    refine aj (aa (vB (decide ((k_3:Int)<(l_1.length:Int)))) (af ?_))
    refine au (aA rfl (drop_nil hD_6) (aV ?_))
    exact aX (s_8) rfl rfl (aC rfl)
   | cons x_5 l_4 =>
    obtain ⟨c_,hc_9,hL_10⟩:=bind_some hL_10
    refine aj (aa (vB (decide ((k_3:Int)<(l_1.length:Int)))) (af ?_))
    refine au (aB rfl (iy hD_6) (ay ?_))
    unfold kM at hc_9
    refine au (aI (aj (aa (vI (k_3:Int)) (jQ Hg rfl rfl (iW hD_6) rfl wz (fO H6 ag62 rfl (.d (.agg (Beat.enc x_5))) rfl wz (nk 0 (.inl rfl) z62 rfl wz (λn_13=>aa (vI (k_3:Int)) (qY 0 il ft 0 H6 rfl rfl (Beat.v x_5) rfl wz (af (aI (aj (bD xh rfl 0 rfl wz (bE 0 0 il ft sz9 ag9 rfl rfl (vS x_5.Player) rfl wz ?_)))))))))))))
    obtain ⟨r_14,hr_15,hc_9⟩:=bind_some hc_9
    refine aG (o6 hr_15) rfl hb53 rfl rfl rfl rfl wz (aa (vB (!r_14)) (aa (vB (!r_14)) (af ?_)))
    rcases ah hc_9 with⟨hc_16,hc_9⟩|⟨hc_16,hc_9⟩
    ·refine aB rfl hc_16 (aj (aa (vI 5) (af ?_)))
     obtain rfl:=ae hc_9
     obtain rfl:=ae hL_10
     obtain rfl:=ae hF
     exact aN (bz [(vI 5)] ⟨rfl,trivial⟩)
    ·refine aA rfl hc_16 (au ?_)
     obtain ⟨v_17,h_18,hc_9⟩:=bind_some hc_9
     refine aH [(0,(vL Beat.enc l_1)),(3,(vI (k_3:Int))),(4,(.ref n_13 0 0)),(8,(vL Beat.enc l_1)),(9,(vI (l_1.length:Int))),(10,(vI (k_3:Int))),(20,(vB v_17))] [(n_13,some (.cells 3 (Beat.v x_5)))] ?_ ?_
     ·refine av (bD yY rfl 1 rfl wz (bE 0 0 il ft sz3 ag3 rfl rfl (vI x_5.At) rfl wz ?_))
      obtain ⟨r_19,hr_20,h_18⟩:=bind_some h_18
      refine aG (lF hr_20) rfl Ij rfl rfl rfl rfl wz (aa (vB (!r_19)) ?_)
      rcases ah h_18 with⟨hc_21,h_18⟩|⟨hc_21,h_18⟩
      ·refine aD rfl hc_21 wz (ai (ai (ai (aa (vB true) (aa (vB true) (af ?_))))))
       obtain rfl:=ae h_18
       exact cu
      ·refine aD rfl hc_21 wz (bD yT rfl 2 rfl wa (bE 0 0 il ft sz3 ag3 rfl rfl (vI x_5.Clock) rfl wa ?_))
       obtain ⟨r_22,hr_23,h_18⟩:=bind_some h_18
       refine aG (nA hr_23) rfl hb54 rfl rfl rfl rfl wa (aa (vB r_22) (aa (vB r_22) (af ?_)))
       obtain rfl:=ae h_18
       exact cu
     ·rintro ⟨⟩ _ sl_ H_ hp_ hq_
      refine aJ _ hp_ hq_ ?_
      rcases ah hc_9 with⟨hc_24,hc_9⟩|⟨hc_24,hc_9⟩
      ·refine aB rfl hc_24 (aj (aa (vI 1) (af ?_)))
       obtain rfl:=ae hc_9
       obtain rfl:=ae hL_10
       obtain rfl:=ae hF
       exact aN (bz [(vI 1)] ⟨rfl,trivial⟩)
      ·refine aA rfl hc_24 (au ?_)
       obtain ⟨v_25,h_26,hc_9⟩:=bind_some hc_9
       refine aH [(0,(vL Beat.enc l_1)),(3,(vI (k_3:Int))),(4,(.ref n_13 0 0)),(8,(vL Beat.enc l_1)),(9,(vI (l_1.length:Int))),(10,(vI (k_3:Int))),(30,(vB v_25))] [(n_13,some (.cells 3 (Beat.v x_5)))] ?_ ?_
       ·refine aQ (aa (vI (k_3:Int)) (aa (vB (decide ((k_3:Int)>0))) ?_))
        rcases ah h_26 with⟨hc_27,h_26⟩|⟨hc_27,h_26⟩
        ·refine aD rfl hc_27 wz (aL (vL Beat.enc l_1) wa rfl (aL (vI (k_3:Int)) wa rfl (aL (vI (w64 ((k_3:Int)-1))) wa rfl ?_)))
         obtain ⟨y_28,hy_29,h_26⟩:=bind_some h_26
         refine jQ Hg rfl rfl hy_29 rfl wa (fO H6 ag62 rfl (.d (.agg (Beat.enc y_28))) rfl wa (bE 8 0 (.inr (by kernel_rfl)) (λ_ _ ag=>trivial) H6 ag62 rfl rfl (.d (.agg (Beat.enc x_5))) rfl wa ?_))
         obtain ⟨r_30,hr_31,h_26⟩:=bind_some h_26
         refine aG (sw hr_31) rfl hb88 rfl rfl rfl rfl wa (aL (vB (decide (r_30>=0))) wa rfl (aa (vB (decide (r_30>=0))) (aa (vB (decide (r_30>=0))) (af ?_))))
         obtain rfl:=ae h_26
         exact cu
        ·refine aD rfl hc_27 wz (ai (ai (ai (ai (ai (ai (ai (ai (aa (vB false) (aa (vB false) (af ?_)))))))))))
         obtain rfl:=ae h_26
         exact cu
       ·rintro ⟨⟩ _ sl_ H_ hp_ hq_
        refine aJ _ hp_ hq_ ?_
        rcases ah hc_9 with⟨hc_32,hc_9⟩|⟨hc_32,hc_9⟩
        ·refine aB rfl hc_32 (aj (aa (vI 7) (af ?_)))
         obtain rfl:=ae hc_9
         obtain rfl:=ae hL_10
         obtain rfl:=ae hF
         exact aN (bz [(vI 7)] ⟨rfl,trivial⟩)
        ·refine aA rfl hc_32 (au ?_)
         obtain ⟨v_33,h_34,hc_9⟩:=bind_some hc_9
         refine aH [(0,(vL Beat.enc l_1)),(8,(vL Beat.enc l_1)),(9,(vI (l_1.length:Int))),(10,(vI (k_3:Int))),(43,(vB v_33))] [(n_13,some (.cells 3 (Beat.v x_5)))] ?_ ?_
         ·refine aQ (aa (vI (k_3:Int)) (aa (vB (decide ((k_3:Int)>0))) ?_))
          rcases ah h_34 with⟨hc_35,h_34⟩|⟨hc_35,h_34⟩
          ·refine aD rfl hc_35 wz (bD xh rfl 0 rfl wa (bE 4 0 (.inr (by kernel_rfl)) (λ_ _ ag=>trivial) sz9 ag9 rfl rfl (vS x_5.Player) rfl wa (aL (vL Beat.enc l_1) wa rfl (aL (vI (k_3:Int)) wa rfl (aL (vI (w64 ((k_3:Int)-1))) wa rfl ?_)))))
           obtain ⟨y_36,hy_37,h_34⟩:=bind_some h_34
           refine jQ Hg rfl rfl hy_37 rfl wa (oD xh rfl [.str y_36.Player,.int .i64 y_36.At,.int .i64 y_36.Clock] rfl rfl wa (fO sz9 ag9 rfl (vS y_36.Player) rfl wa (aL (vB (sEq x_5.Player y_36.Player)) wa rfl (aa (vB (sEq x_5.Player y_36.Player)) ?_))))
           rcases ah h_34 with⟨hc_38,h_34⟩|⟨hc_38,h_34⟩
           ·refine aD rfl hc_38 wz (bD yT rfl 2 rfl wa (bE 15 0 (.inr (by kernel_rfl)) (λ_ _ ag=>⟨.inl ⟨rfl,rfl⟩,trivial⟩) sz3 ag3 rfl rfl (vI x_5.Clock) rfl wa (aL (vL Beat.enc l_1) wa rfl (aL (vI (k_3:Int)) wa rfl (aL (vI (w64 ((k_3:Int)-1))) wa rfl ?_)))))
            obtain ⟨y_39,hy_40,h_34⟩:=bind_some h_34
            refine jQ Hg rfl rfl hy_40 rfl wa (oD yT rfl [.int .i64 y_39.Clock] rfl rfl wa (fO sz3 ag3 rfl (vI y_39.Clock) rfl wa (aL (vB (decide (x_5.Clock<=y_39.Clock))) wa rfl (aa (vB (decide (x_5.Clock<=y_39.Clock))) (aa (vB (decide (x_5.Clock<=y_39.Clock))) (af ?_))))))
            obtain rfl:=ae h_34
            exact cu
           ·refine aD rfl hc_38 wz (ai (ai (ai (ai (ai (ai (ai (ai (ai (aa (vB false) (aa (vB false) (af ?_))))))))))))
            obtain rfl:=ae h_34
            exact cu
          ·refine aD rfl hc_35 wz (ai (ai (ai (ai (ai (ai (ai (ai (ai (aa (vB false) (aa (vB false) (ai (ai (ai (ai (ai (ai (ai (ai (ai (aa (vB false) (aa (vB false) (af ?_)))))))))))))))))))))))
           obtain rfl:=ae h_34
           exact cu
         ·rintro ⟨⟩ _ sl_ H_ hp_ hq_
          refine aJ _ hp_ hq_ ?_
          rcases ah hc_9 with⟨hc_41,hc_9⟩|⟨hc_41,hc_9⟩
          ·refine aB rfl hc_41 (aj (aa (vI 16) (af ?_)))
           obtain rfl:=ae hc_9
           obtain rfl:=ae hL_10
           obtain rfl:=ae hF
           exact aN (bz [(vI 16)] ⟨rfl,trivial⟩)
          ·refine aA rfl hc_41 (ay (av (lw (iB hD_6 hn_7) wz rfl (aa (vI ((k_3+1:Nat):Int)) (af ?_)))))
           obtain rfl:=ae hc_9
           exact aK (k_3+1,l_4,()) ⟨hL_10,bR hD_6⟩ (ls_ _) rfl (aC rfl)
  ·rintro s_8 ho_ sl_ H_ hp_ hq_
   subst ho_
   refine aJ _ hp_ hq_ (aj (aa (vI 0) (af ?_)))
   obtain rfl:=ae hF
   exact aN (bz [(vI 0)] ⟨rfl,trivial⟩)
theorem wW {l_1:(List Beat)} {player_2:ByteArray} {back_3:Bool} {r:(List Beat_)} (hF:mf l_1 player_2 back_3=some r) :
  FnM Tryz.prog 68 [(vL Beat.enc l_1),(vS player_2),(vB back_3)] [] (vL Beat_.enc r) []:=by
 refine FnM.of_wH ⟨Tryz.prog,41,[],[]⟩ rfl Tryz.func68 rfl rfl (lb_ rfl) (by kernel_rfl) ?_
 unfold mf at hF
 refine aj (aa .nil (af (aj (aa .nil (af (au (aj (aa (vL Beat.enc l_1) (iT un63 rfl wz (aa (vI 0) (af (sH (λn_10 => ?_)))))))))))))
 obtain ⟨o_15,hj_16,hF⟩:=bind_some hF
 obtain ⟨hn_8,hj_16⟩:=dI hj_16
 refine nz (σ:=(List Beat_)) (N:=Nm) (λp=>(λ(s_9:List Beat_) (n_12:Nm)=>([(7,(gV n_12 2 s_9))]:SL_)) p.1 p.2) (λp=>(λ(s_9:List Beat_) (n_12:Nm)=>([(n_12,gB 2 Beat_.enc s_9)]:Hp)) p.1 p.2) (λ(k_4:Nat)=>(λp=>(λ(s_9:List Beat_) (n_12:Nm)=>([(1,(vS player_2)),(2,(vB back_3)),(7,(gV n_12 2 s_9)),(10,(vL Beat.enc l_1)),(11,(vI (l_1.length:Int))),(12,(vI (k_4:Int)))]:SL_)) p.1 p.2)) (λk x s=>jR player_2 back_3 k x s) o_15 l_1 (([]:List Beat_),n_10) hj_16 rfl (aC rfl) ?_ ?_
 ·rintro ⟨k_4,l_5,s_9,n_12⟩ ⟨hL_14,hD_7⟩
  dsimp only at hL_14 hD_7
  cases l_5 with
  | nil =>
   obtain rfl:=ae hL_14
   refine aj (aa (vB (decide ((k_4:Int)<(l_1.length:Int)))) (af ?_))
   refine au (aA rfl (drop_nil hD_7) (aV ?_))
   exact aX (s_9,n_12) rfl rfl (aC rfl)
  | cons x_6 l_5 =>
   obtain ⟨c_,hc_13,hL_14⟩:=bind_some hL_14
   refine aj (aa (vB (decide ((k_4:Int)<(l_1.length:Int)))) (af ?_))
   refine au (aB rfl (iy hD_7) (ay ?_))
   unfold jR at hc_13
   refine au (aI (aj (jQ Hg rfl rfl (iW hD_7) rfl wz (fO H6 ag62 rfl (.d (.agg (Beat.enc x_6))) rfl wz (nk 0 (.inl rfl) z62 rfl wz (λn_17=>qY 0 il ft 1 H6 rfl rfl (Beat.v x_6) rfl wz (af (aI (aj (bD xh rfl 0 rfl wz (bE 0 1 il ft sz9 ag9 rfl rfl (vS x_6.Player) rfl wz (aa (vS player_2) (aa (vB (sNe x_6.Player player_2)) (aa (vB (sNe x_6.Player player_2)) (af ?_)))))))))))))))
   obtain ⟨v_18,h_19,hc_13⟩:=bind_some hc_13
   refine nu (β:=Nm) (λ(n_20:Nm)=>([(1,(vS player_2)),(2,(vB back_3)),(7,(gV n_20 2 v_18)),(10,(vL Beat.enc l_1)),(11,(vI (l_1.length:Int))),(12,(vI (k_4:Int)))]:SL_)) (λ(n_20:Nm)=>([(n_20,gB 2 Beat_.enc v_18),(n_17,some (.cells 3 (Beat.v x_6)))]:Hp)) (λ_=>True) ?_ ?_
   ·rcases ah h_19 with⟨hc_21,h_19⟩|⟨hc_21,h_19⟩
    ·refine aB rfl hc_21 (ay ?_)
     obtain rfl:=ae h_19
     exact aX n_12 trivial rfl (aC rfl)
    ·refine aA rfl hc_21 (aj (aa (vB back_3) (aa (vB back_3) (af ?_))))
     rcases ah h_19 with⟨hc_22,h_19⟩|⟨hc_22,h_19⟩
     ·refine aB rfl hc_22 (av (aa (gV n_12 2 s_9) (bD yY rfl 1 rfl wz (bE 0 1 il ft sz3 ag3 rfl rfl (vI x_6.At) rfl wz (bD yT rfl 2 rfl wz (bE 0 1 il ft sz3 ag3 rfl rfl (vI x_6.Clock) rfl wz (aL (.d (.agg (Beat_.enc (⟨x_6.At,x_6.Clock⟩:Beat_)))) wz (by kernel_rfl) (kL (([(⟨x_6.At,x_6.Clock⟩:Beat_)]:List Beat_).map Beat_.enc) CJ ez85 rfl rfl rfl rfl rfl wz ?_))))))))
      obtain ⟨a_23,hz_24,h_19⟩:=bind_some h_19
      refine qB 0 il ft (i:=0) el85 el85 Bb z110 rfl (by decide) by110 (by decide) (λ_=>rfl) rfl rfl rfl hz_24 wz (λn_25=>aa (gV n_25 2 a_23) (af ?_))
      obtain rfl:=ae h_19
      exact aX n_25 trivial rfl (aC rfl)
     ·refine aA rfl hc_22 (av (aa (gV n_12 2 s_9) (bD yT rfl 2 rfl wz (bE 0 1 il ft sz3 ag3 rfl rfl (vI x_6.Clock) rfl wz (bD yY rfl 1 rfl wz (bE 0 1 il ft sz3 ag3 rfl rfl (vI x_6.At) rfl wz (aL (.d (.agg (Beat_.enc (⟨x_6.Clock,x_6.At⟩:Beat_)))) wz (by kernel_rfl) (kL (([(⟨x_6.Clock,x_6.At⟩:Beat_)]:List Beat_).map Beat_.enc) CJ ez85 rfl rfl rfl rfl rfl wz ?_))))))))
      obtain ⟨a_26,hz_27,h_19⟩:=bind_some h_19
      refine qB 0 il ft (i:=0) el85 el85 Bb z110 rfl (by decide) by110 (by decide) (λ_=>rfl) rfl rfl rfl hz_27 wz (λn_28=>aa (gV n_28 2 a_26) (af ?_))
      obtain rfl:=ae h_19
      exact aX n_28 trivial rfl (aC rfl)
   ·rintro n_20 _ sl_ H_ hp_ hq_
    refine aJ _ hp_ hq_ (av (lw (iB hD_7 hn_8) wz rfl (aa (vI ((k_4+1:Nat):Int)) (af ?_))))
    obtain rfl:=ae hc_13
    exact aK (k_4+1,l_5,v_18,n_20) ⟨hL_14,bR hD_7⟩ (ls_ _) rfl (aC rfl)
 ·rintro ⟨s_9,n_12⟩ ho_ sl_ H_ hp_ hq_
  subst ho_
  refine aJ _ hp_ hq_ (aj (aa (gV n_12 2 s_9) (aa (gV n_12 2 s_9) (af (lT 0 rfl (jN 6 0 rfl rfl (jN 7 0 rfl rfl (jN 40 0 rfl rfl ?_))))))))
  obtain rfl:=ae hF
  exact aN (bz [(vL Beat_.enc s_9)] ⟨rfl,trivial⟩)
end Go.Proofs.YtdpginbnipklcaaGreatDoor.Law

