/-
 The machine computes these plain functions (written by a program of ours).
-/
import Derived.Test.YtigdobmllbakiaaGreatDoorFacts
import Derived.Test.YtigdobmllbakiaaGreatDoorDefs
import Derived.Test.YtigdobmllbakiaaGreatDoorPf2
open Go Go.Eng Go.Proofs
namespace Go.Proofs.YtigdobmllbakiaaGreatDoor.Law
set_option maxRecDepth 100000
set_option linter.unusedVariables false
set_option maxHeartbeats 1000000
theorem xE {x_1:Int} {r:Int} (hF:pg x_1=some r) :
  FnM Tryz.prog 134 [(.d (.int .u64 x_1))] [] (vI r) []:=by
 refine FnM.of_wH ⟨Tryz.prog,25,[],[]⟩ rfl Tryz.func134 rfl rfl (lb_ rfl) (by kernel_rfl) ?_
 unfold pg at hF
 refine aj (aa (vI 0) (af (au (aj (aa (.d (.int .u64 x_1)) (aa (vB (decide (x_1>=4294967296))) (af ?_)))))))
 obtain ⟨v_2,h_3,hF⟩:=bind_some hF
 refine aR [(0,(.d (.int .u64 v_2.1))),(2,(vI v_2.2))] [] ?_ ?_
 ·rcases ak h_3 with⟨hc_4,h_3⟩|⟨hc_4,h_3⟩
  ·refine aB rfl hc_4 (aj (aa (.d (.int .u64 x_1)) ?_))
   obtain ⟨q_5,hz_6,h_3⟩:=bind_some h_3
   refine Kh rfl rfl hz_6 wz (aa (.d (.int .u64 q_5)) (af (av (aa (vI 32) (af ?_)))))
   obtain rfl:=ae h_3
   exact cu
  ·refine aA rfl hc_4 (ax ?_)
   obtain rfl:=ae h_3
   exact cu
 ·rintro ⟨⟩ _ sl_ H_ hp_ hq_
  refine aQ _ hp_ hq_ (au (aj (aa (.d (.int .u64 v_2.1)) (aa (vB (decide (v_2.1>=65536))) (af ?_)))))
  obtain ⟨v_7,h_8,hF⟩:=bind_some hF
  refine aR [(0,(.d (.int .u64 v_7.1))),(2,(vI v_7.2))] [] ?_ ?_
  ·rcases ak h_8 with⟨hc_9,h_8⟩|⟨hc_9,h_8⟩
   ·refine aB rfl hc_9 (aj (aa (.d (.int .u64 v_2.1)) ?_))
    obtain ⟨q_10,hz_11,h_8⟩:=bind_some h_8
    refine Kh rfl rfl hz_11 wz (aa (.d (.int .u64 q_10)) (af (av (aa (vI v_2.2) (aa (vI (w64 (v_2.2+16))) (aa (vI (w64 (v_2.2+16))) (af ?_)))))))
    obtain rfl:=ae h_8
    exact cu
   ·refine aA rfl hc_9 (ax ?_)
    obtain rfl:=ae h_8
    exact cu
  ·rintro ⟨⟩ _ sl_ H_ hp_ hq_
   refine aQ _ hp_ hq_ (au (aj (aa (.d (.int .u64 v_7.1)) (aa (vB (decide (v_7.1>=256))) (af ?_)))))
   obtain ⟨v_12,h_13,hF⟩:=bind_some hF
   refine aR [(0,(.d (.int .u64 v_12.1))),(2,(vI v_12.2))] [] ?_ ?_
   ·rcases ak h_13 with⟨hc_14,h_13⟩|⟨hc_14,h_13⟩
    ·refine aB rfl hc_14 (aj (aa (.d (.int .u64 v_7.1)) ?_))
     obtain ⟨q_15,hz_16,h_13⟩:=bind_some h_13
     refine Kh rfl rfl hz_16 wz (aa (.d (.int .u64 q_15)) (af (av (aa (vI v_7.2) (aa (vI (w64 (v_7.2+8))) (aa (vI (w64 (v_7.2+8))) (af ?_)))))))
     obtain rfl:=ae h_13
     exact cu
    ·refine aA rfl hc_14 (ax ?_)
     obtain rfl:=ae h_13
     exact cu
   ·rintro ⟨⟩ _ sl_ H_ hp_ hq_
    refine aQ _ hp_ hq_ (aj (aa (vI v_12.2) (aa (.d (.int .u64 v_12.1)) (x9 un176 un5 rfl wz ?_))))
    obtain ⟨b_17,hy_18,hF⟩:=bind_some hF
    refine vw un9 rfl rfl hy_18 wz (x9 un5 un3 rfl wz (aa (vI (w64 (v_12.2+(w64 (b_17.toNat:Int))))) (aa (vI (w64 (v_12.2+(w64 (b_17.toNat:Int))))) (af ?_))))
    obtain rfl:=ae hF
    exact ay (aK [(vI (w64 (v_12.2+(w64 (b_17.toNat:Int)))))] ⟨rfl,trivial⟩)
theorem zK {x_1:Int} {r:Int} (hF:nY x_1=some r) :
  FnM Tryz.prog 108 [(.d (.int .u64 x_1))] [] (vI r) []:=by
 refine FnM.of_wH ⟨Tryz.prog,8,[],[]⟩ rfl Tryz.func108 rfl rfl (lb_ rfl) (by kernel_rfl) ?_
 unfold nY at hF
 refine aj (aa (vI 0) (af (au (aA rfl rfl (ax (aj (aa (.d (.int .u64 x_1)) ?_)))))))
 obtain ⟨r_2,hr_3,hF⟩:=bind_some hF
 refine aC (xE hr_3) rfl hb134 rfl rfl rfl rfl wz (aa (vI r_2) (af ?_))
 obtain rfl:=ae hF
 exact ay (aK [(vI r_2)] ⟨rfl,trivial⟩)
theorem jr {data_1:(List Run)} {a_2:Int} {b_3:Int} {r:(List Run)} (hF:bO data_1 a_2 b_3=some r) :
  FnM Tryz.prog 155 [(dV (aF 0) 2 data_1),(vI a_2),(vI b_3),(.fn 110 [])] (([]:List Box)++gI 2 Run.enc data_1) (.tup []) (([]:List Box).map some++gT data_1 (gB 2 Run.enc r)):=by
 refine FnM.of_wHv ⟨Tryz.prog,53,[],[]⟩ rfl Tryz.func155 rfl rfl (lb_ rfl) (by kernel_rfl) ?_
 unfold bO at hF
 refine aj (aa (vI a_2) (aa (vI (w64 (a_2+1))) (aa (vI (w64 (a_2+1))) (af ?_))))
 obtain ⟨o_13,hj_14,hF⟩:=bind_some hF
 obtain ⟨nq_51,hj_14⟩:=gu hj_14
 refine jB (λ(s_10:(List Run)×Int)=>[]) (λ(s_10:(List Run)×Int)=>[((aF 0),gB 2 Run.enc s_10.1)]) (λ(k_5:Nat)=>(λ(s_10:(List Run)×Int)=>[(0,(dV (aF 0) 2 s_10.1)),(1,(vI a_2)),(2,(vI b_3)),(3,(.fn 110 [])),(8,(vI s_10.2))])) (λs=>bE b_3 a_2 s) o_13 nq_51 (data_1,(w64 (a_2+1))) hj_14 rfl (aL rfl) ?_ ?_
 ·rintro ⟨k_5,s_10⟩ hL_12
  dsimp only at hL_12
  cases k_5 with
  | zero=>cases hL_12
  | succ k_5 =>
   obtain ⟨c_,hc_11,hL_12⟩:=bind_some hL_12
   unfold bE at hc_11
   refine au (aj (aa (vI s_10.2) (aa (vI b_3) (aa (vB (decide (s_10.2<b_3))) (af ?_)))))
   rcases ak hc_11 with⟨hc_15,hc_11⟩|⟨hc_15,hc_11⟩
   ·refine aB rfl hc_15 (ax (au (aO (aj (aa (vI s_10.2) (aa (vI s_10.2) (af ?_)))))))
    obtain ⟨o_24,hj_25,hc_11⟩:=bind_some hc_11
    obtain ⟨nq_50,hj_25⟩:=gu hj_25
    refine jB (λ(s_21:(List Run)×Int)=>[(0,(dV (aF 0) 2 s_21.1)),(1,(vI a_2)),(2,(vI b_3)),(3,(.fn 110 [])),(8,(vI s_10.2))]) (λ(s_21:(List Run)×Int)=>[((aF 0),gB 2 Run.enc s_21.1)]) (λ(k_16:Nat)=>(λ(s_21:(List Run)×Int)=>[(0,(dV (aF 0) 2 s_21.1)),(1,(vI a_2)),(2,(vI b_3)),(3,(.fn 110 [])),(8,(vI s_10.2)),(9,(vI s_21.2))])) (λs=>bT a_2 s) o_24 nq_50 (s_10.1,s_10.2) hj_25 rfl (aL rfl) ?_ ?_
    ·rintro ⟨k_16,s_21⟩ hL_23
     dsimp only at hL_23
     cases k_16 with
     | zero=>cases hL_23
     | succ k_16 =>
      obtain ⟨c_,hc_22,hL_23⟩:=bind_some hL_23
      unfold bT at hc_22
      refine au (au ?_)
      obtain ⟨v_26,h_27,hc_22⟩:=bind_some hc_22
      refine aR [(0,(dV (aF 0) 2 s_21.1)),(1,(vI a_2)),(2,(vI b_3)),(3,(.fn 110 [])),(8,(vI s_10.2)),(9,(vI s_21.2)),(34,(vB v_26))] [((aF 0),gB 2 Run.enc s_21.1)] ?_ ?_
      ·refine bL (aa (vI s_21.2) (aa (vI a_2) (aa (vB (decide (s_21.2>a_2))) ?_)))
       rcases ak h_27 with⟨hc_28,h_27⟩|⟨hc_28,h_27⟩
       ·refine aD rfl hc_28 wz (aJ (.fn 110 []) wa rfl (aJ (dV (aF 0) 2 s_21.1) wa rfl (aJ (vI s_21.2) wa rfl ?_)))
        obtain ⟨_,hi_29,h_27⟩:=bind_some h_27
        refine vQ kC rfl rfl (ru hi_29) (mM hi_29) wa ?_
        obtain ⟨e_30,hy_31,h_27⟩:=bind_some h_27
        refine uB 8 0 (.inr (by kernel_rfl)) (λ_ _ ag=>trivial) mG vY rfl rfl hy_31 (.d (.agg (Run.enc e_30))) rfl wa (aJ (dV (aF 0) 2 s_21.1) wa rfl (aJ (vI s_21.2) wa rfl (aJ (vI (w64 (s_21.2-1))) wa rfl ?_)))
        obtain ⟨_,hi_32,h_27⟩:=bind_some h_27
        refine vQ kC rfl rfl (ru hi_32) (mM hi_32) wa ?_
        obtain ⟨e_33,hy_34,h_27⟩:=bind_some h_27
        refine uB 13 0 (.inr (by kernel_rfl)) (λ_ _ ag=>⟨.inl ⟨rfl,rfl⟩,trivial⟩) mG vY rfl rfl hy_34 (.d (.agg (Run.enc e_33))) rfl wa ?_
        obtain ⟨r_35,hr_36,h_27⟩:=bind_some h_27
        refine aC (zm hr_36) rfl hb110 rfl rfl rfl rfl wa (aJ (vB (decide (r_35<0))) wa rfl (aa (vB (decide (r_35<0))) (af ?_)))
        obtain rfl:=ae h_27
        exact cu
       ·refine aD rfl hc_28 wz (ah (ah (ah (ah (ah (ah (ah (ah (ah (ah (ah (ah (aa (vB false) (af ?_))))))))))))))
        obtain rfl:=ae h_27
        exact cu
      ·rintro ⟨⟩ _ sl_ H_ hp_ hq_
       refine aQ _ hp_ hq_ ?_
       rcases ak hc_22 with⟨hc_37,hc_22⟩|⟨hc_37,hc_22⟩
       ·refine aB rfl hc_37 (ax (au (aO (bL (aa (dV (aF 0) 2 s_21.1) (aa (vI s_21.2) (aa (dV (aF 0) 2 s_21.1) (aa (vI s_21.2) (aa (vI (w64 (s_21.2-1))) (aa (dV (aF 0) 2 s_21.1) (aa (vI s_21.2) (aa (vI (w64 (s_21.2-1))) ?_))))))))))))
        obtain ⟨_,hi_38,hc_22⟩:=bind_some hc_22
        refine vQ kC rfl rfl (ru hi_38) (mM hi_38) wz ?_
        obtain ⟨e_39,hy_40,hc_22⟩:=bind_some hc_22
        refine uB 9 0 (.inr (by kernel_rfl)) (λ_ _ ag=>trivial) mG vY rfl rfl hy_40 (.d (.agg (Run.enc e_39))) rfl wz (aa (dV (aF 0) 2 s_21.1) (aa (vI s_21.2) ?_))
        obtain ⟨_,hi_41,hc_22⟩:=bind_some hc_22
        refine vQ kC rfl rfl (ru hi_41) (mM hi_41) wz ?_
        obtain ⟨e_42,hy_43,hc_22⟩:=bind_some hc_22
        refine uB 13 0 (.inr (by kernel_rfl)) (λ_ _ ag=>⟨.inl ⟨rfl,rfl⟩,trivial⟩) mG vY rfl rfl hy_43 (.d (.agg (Run.enc e_42))) rfl wz ?_
        obtain ⟨_,hi_44,hc_22⟩:=bind_some hc_22
        refine vQ kC rfl rfl (ru hi_44) (mM hi_44) wz ?_
        obtain ⟨e_45,hy_46,hc_22⟩:=bind_some hc_22
        refine F6 15 (.inr (by kernel_rfl)) (λ_ _ ag=>⟨.inr (.inr (by kernel_rfl)),⟨.inr (.inr (by kernel_rfl)),trivial⟩⟩) 0 mG rfl rfl hy_46 e_39 rfl wz (lm (v':=(dV (aF 0) 2 (s_21.1.set (0+(s_21.2).toNat) e_39))) 0 rfl (lZ (by simp)) (lm (v':=(dV (aF 0) 2 (s_21.1.set (0+(s_21.2).toNat) e_39))) 37 rfl (lZ (by simp)) (lm (v':=(dV (aF 0) 2 (s_21.1.set (0+(s_21.2).toNat) e_39))) 39 rfl (lZ (by simp)) (lm (v':=(dV (aF 0) 2 (s_21.1.set (0+(s_21.2).toNat) e_39))) 42 rfl (lZ (by simp)) (lm (v':=(dV (aF 0) 2 (s_21.1.set (0+(s_21.2).toNat) e_39))) 47 rfl (lZ (by simp)) ?_)))))
        obtain ⟨_,hi_47,hc_22⟩:=bind_some hc_22
        refine vQ kC rfl rfl (ru hi_47) (mM hi_47) wz ?_
        obtain ⟨e_48,hy_49,hc_22⟩:=bind_some hc_22
        refine F6 17 (.inr (by kernel_rfl)) (λ_ _ ag=>⟨.inr (.inr (by kernel_rfl)),⟨.inr (.inr (by kernel_rfl)),⟨.inr (.inr (by kernel_rfl)),trivial⟩⟩⟩) 0 mG rfl rfl hy_49 e_42 rfl wz (lm (v':=(dV (aF 0) 2 ((s_21.1.set (0+(s_21.2).toNat) e_39).set (0+((w64 (s_21.2-1))).toNat) e_42))) 0 rfl (lZ (by simp)) (lm (v':=(dV (aF 0) 2 ((s_21.1.set (0+(s_21.2).toNat) e_39).set (0+((w64 (s_21.2-1))).toNat) e_42))) 37 rfl (lZ (by simp)) (lm (v':=(dV (aF 0) 2 ((s_21.1.set (0+(s_21.2).toNat) e_39).set (0+((w64 (s_21.2-1))).toNat) e_42))) 39 rfl (lZ (by simp)) (lm (v':=(dV (aF 0) 2 ((s_21.1.set (0+(s_21.2).toNat) e_39).set (0+((w64 (s_21.2-1))).toNat) e_42))) 42 rfl (lZ (by simp)) (lm (v':=(dV (aF 0) 2 ((s_21.1.set (0+(s_21.2).toNat) e_39).set (0+((w64 (s_21.2-1))).toNat) e_42))) 47 rfl (lZ (by simp)) (af (av (aa (vI s_21.2) (aa (vI (w64 (s_21.2-1))) (aa (vI (w64 (s_21.2-1))) (af ?_)))))))))))
        obtain rfl:=ae hc_22
        exact aY (k_16,(((s_21.1.set (0+(s_21.2).toNat) e_39).set (0+((w64 (s_21.2-1))).toNat) e_42),(w64 (s_21.2-1)))) hL_23 (ls_ _) rfl (aL rfl)
       ·refine aA rfl hc_37 (bg ?_)
        obtain rfl:=ae hc_22
        obtain rfl:=ae hL_23
        exact aZ ((s_21.1,s_21.2)) rfl rfl (aL rfl)
    ·rintro s_21 ho_ sl_ H_ hp_ hq_
     subst ho_
     refine aQ _ hp_ hq_ (av (aa (vI s_10.2) (aa (vI (w64 (s_10.2+1))) (aa (vI (w64 (s_10.2+1))) (af ?_)))))
     obtain rfl:=ae hc_11
     exact aY (k_5,(s_21.1,(w64 (s_10.2+1)))) hL_12 (ls_ _) rfl (aL rfl)
   ·refine aA rfl hc_15 (bg ?_)
    obtain rfl:=ae hc_11
    obtain rfl:=ae hL_12
    exact aZ ((s_10.1,s_10.2)) rfl rfl (aL rfl)
 ·rintro s_10 ho_ sl_ H_ hp_ hq_
  subst ho_
  show wY _ _ _ _ _ _ _ _
  obtain rfl:=ae hF
  exact Kj (H0:=([((aF 0),gB 2 Run.enc s_10.1)]:Hp)) (sl':=envS []) hq_ (Jk (bs:=([]:List Box)) (os:=([]:List Box)) (xs:=data_1) (o:=gB 2 Run.enc s_10.1) (.inl rfl) [] trivial rfl rfl rfl rfl rfl (by kernel_rfl) yY rfl)
theorem kM {data_1:(List Run)} {a_2:Int} {b_3:Int} {limit_4:Int} {r:(List Run)} (hF:cz data_1 a_2 b_3 limit_4=some r) :
  FnM Tryz.prog 135 [(dV (aF 0) 2 data_1),(vI a_2),(vI b_3),(vI limit_4),(.fn 110 [])] (([]:List Box)++gI 2 Run.enc data_1) (.tup []) (([]:List Box).map some++gT data_1 (gB 2 Run.enc r)):=by
 refine FnM.of_wHv ⟨Tryz.prog,148,[],[]⟩ rfl Tryz.func135 rfl rfl (lb_ rfl) (by kernel_rfl) ?_
 unfold cz at hF
 refine aj (aa (vB true) (af (aj (aa (vB true) (af ?_)))))
 obtain ⟨o_14,hj_15,hF⟩:=bind_some hF
 obtain ⟨nq_21,hj_15⟩:=gu hj_15
 refine jB (λ(s_11:Unit)=>[]) (λ(s_11:Unit)=>[((aF 0),gB 2 Run.enc data_1)]) (λ(k_6:Nat)=>(λ(s_11:Unit)=>[(0,(dV (aF 0) 2 data_1)),(1,(vI a_2)),(2,(vI b_3)),(3,(vI limit_4)),(4,(.fn 110 [])),(10,(vB true)),(11,(vB true))])) (λs=>bS b_3 a_2 data_1 limit_4 s) o_14 nq_21 () hj_15 rfl (aL rfl) ?_ ?_
 ·rintro ⟨k_6,s_11⟩ hL_13
  dsimp only at hL_13
  cases k_6 with
  | zero=>cases hL_13
  | succ k_6 =>
   obtain ⟨c_,hc_12,hL_13⟩:=bind_some hL_13
   unfold bS at hc_12
   refine aO (aj (aa (vI b_3) (aa (vI a_2) (aa (vI (w64 (b_3-a_2))) (aa (vI (w64 (b_3-a_2))) (af (au (aj (aa (vI (w64 (b_3-a_2))) (aa (vB (decide ((w64 (b_3-a_2))<=12))) (af ?_)))))))))))
   rcases ak hc_12 with⟨hc_16,hc_12⟩|⟨hc_16,hc_12⟩
   ·refine aB rfl hc_16 (aj (aa (dV (aF 0) 2 data_1) (aa (vI a_2) (aa (vI b_3) (aa (.fn 110 []) ?_)))))
    obtain ⟨r_17,hr_18,hc_12⟩:=bind_some hc_12
    obtain ⟨_,hs_19,hc_12⟩:=bind_some hc_12
    replace hs_19:=ze hs_19
    refine wI 0 [] 0 0 il ft (jr hr_18) rfl hb155 rfl rfl rfl (by kernel_rfl) rfl (.inr (.inl rfl)) rfl (by kernel_rfl) (by kernel_rfl) (by kernel_rfl) (by kernel_rfl) rfl (by decide) (by kernel_rfl) yY (Ho hs_19) wz ([((aF 0),gB 2 Run.enc r_17)]:Hp) (by kernel_rfl) (lm (v':=(dV (aF 0) 2 r_17)) 0 rfl (lZ hs_19.symm) (lm (v':=(dV (aF 0) 2 r_17)) 26 rfl (lZ hs_19.symm) (af ?_)))
    obtain rfl:=ae hc_12
    obtain rfl:=ae hL_13
    obtain rfl:=ae hF
    exact ay (Jk (bs:=([]:List Box)) (os:=([]:List Box)) (xs:=data_1) (o:=gB 2 Run.enc r_17) (.inr rfl) [] trivial rfl rfl rfl rfl rfl (by kernel_rfl) yY rfl)
   ·refine aA rfl hc_16 (ax (au (aj (aa (vI limit_4) (aa (vB (limit_4==0)) (af ?_))))))
    rcases ak hc_12 with⟨hc_20,hc_12⟩|⟨hc_20,hc_12⟩
    ·refine aB rfl hc_20 (aj (aa (dV (aF 0) 2 data_1) (aa (vI a_2) (aa (vI b_3) (aa (.fn 110 []) ?_)))))
     cases hc_12
    ·refine aA rfl hc_20 (ax (au (aj (aa (vB true) (aa (vB false) (af (aA rfl rfl (ax (aj (aa (dV (aF 0) 2 data_1) (aa (vI a_2) (aa (vI b_3) (aa (.fn 110 []) ?_)))))))))))))
     cases hc_12
 ·rintro s_11 ho_ sl_ H_ hp_ hq_
  subst ho_
  show wY _ _ _ _ _ _ _ _
  obtain rfl:=ae hF
  exact Kj (H0:=([((aF 0),gB 2 Run.enc data_1)]:Hp)) (sl':=envS []) hq_ (Jk (bs:=([]:List Box)) (os:=([]:List Box)) (xs:=data_1) (o:=gB 2 Run.enc data_1) (.inl rfl) [] trivial rfl rfl rfl rfl rfl (by kernel_rfl) yY rfl)
theorem jE {x_1:(List Run)} {r:(List Run)} (hF:bP x_1=some r) :
  FnM Tryz.prog 109 [(dV (aF 0) 2 x_1),(.fn 110 [])] (([]:List Box)++gI 2 Run.enc x_1) (.tup []) (([]:List Box).map some++gT x_1 (gB 2 Run.enc r)):=by
 refine FnM.of_wHv ⟨Tryz.prog,14,[],[]⟩ rfl Tryz.func109 rfl rfl (lb_ rfl) (by kernel_rfl) ?_
 unfold bP at hF
 refine aj (aa (dV (aF 0) 2 x_1) (JI xB rfl wz (aa (vI (x_1.length:Int)) (af (av (aa (dV (aF 0) 2 x_1) (aa (vI (x_1.length:Int)) (aa (vI (x_1.length:Int)) (x9 un3 MN rfl wz ?_)))))))))
 obtain ⟨r_3,hr_4,hF⟩:=bind_some hF
 refine aC (zK hr_4) rfl hb108 rfl rfl rfl rfl wz (aa (.fn 110 []) ?_)
 obtain ⟨r_5,hr_6,hF⟩:=bind_some hF
 obtain ⟨_,hs_7,hF⟩:=bind_some hF
 replace hs_7:=ze hs_7
 refine wI 0 [] 0 0 il ft (kM hr_6) rfl hb135 rfl rfl rfl (by kernel_rfl) rfl (.inr (.inl rfl)) rfl (by kernel_rfl) (by kernel_rfl) (by kernel_rfl) (by kernel_rfl) rfl (by decide) (by kernel_rfl) yY (Ho hs_7) wz ([((aF 0),gB 2 Run.enc r_5)]:Hp) (by kernel_rfl) (lm (v':=(dV (aF 0) 2 r_5)) 0 rfl (lZ hs_7.symm) (lm (v':=(dV (aF 0) 2 r_5)) 5 rfl (lZ hs_7.symm) (lm (v':=(dV (aF 0) 2 r_5)) 7 rfl (lZ hs_7.symm) (af ?_))))
 show wY _ _ _ _ _ _ _ _
 obtain rfl:=ae hF
 exact Jk (bs:=([]:List Box)) (os:=([]:List Box)) (xs:=x_1) (o:=gB 2 Run.enc r_5) (.inl rfl) [] trivial rfl rfl rfl rfl rfl (by kernel_rfl) yY rfl
theorem vJ {l_1:(List Rect)} {y_2:Int} {r:(List Run)} (hF:mD l_1 y_2=some r) :
  FnM Tryz.prog 82 [(vL Rect.enc l_1),(vI y_2)] [] (vL Run.enc r) []:=by
 refine FnM.of_wH ⟨Tryz.prog,84,[],[]⟩ rfl Tryz.func82 rfl rfl (lb_ rfl) (by kernel_rfl) ?_
 unfold mD at hF
 refine aj (aa .nil (af (aj (aa .nil (af (au (aj (aa (vL Rect.enc l_1) (bI zI rfl wz (aa (vI 0) (af (lJ (λn_9 => ?_)))))))))))))
 obtain ⟨o_14,hj_15,hF⟩:=bind_some hF
 obtain ⟨hn_7,hj_15⟩:=aX hj_15
 refine fV (σ:=(List Run)) (N:=Nm) (λp=>(λ(s_8:List Run) (n_11:Nm)=>([(5,(gV n_11 2 s_8))]:SL_)) p.1 p.2) (λp=>(λ(s_8:List Run) (n_11:Nm)=>([(n_11,gB 2 Run.enc s_8)]:Hp)) p.1 p.2) (λ(k_3:Nat)=>(λp=>(λ(s_8:List Run) (n_11:Nm)=>([(1,(vI y_2)),(5,(gV n_11 2 s_8)),(12,(vL Rect.enc l_1)),(13,(vI (l_1.length:Int))),(14,(vI (k_3:Int)))]:SL_)) p.1 p.2)) (λk x s=>mU y_2 k x s) o_14 l_1 (([]:List Run),n_9) hj_15 rfl (aL rfl) ?_ ?_
 ·rintro ⟨k_3,l_4,s_8,n_11⟩ ⟨hL_13,hD_6⟩
  dsimp only at hL_13 hD_6
  cases l_4 with
  | nil =>
   obtain rfl:=ae hL_13
   refine aj (aa (vB (decide ((k_3:Int)<(l_1.length:Int)))) (af ?_))
   refine au (aA rfl (drop_nil hD_6) (bg ?_))
   exact aZ (s_8,n_11) rfl rfl (aL rfl)
  | cons x_5 l_4 =>
   obtain ⟨c_,hc_12,hL_13⟩:=bind_some hL_13
   refine aj (aa (vB (decide ((k_3:Int)<(l_1.length:Int)))) (af ?_))
   refine au (aB rfl (bz hD_6) (ax ?_))
   unfold mU at hc_12
   refine au (aO (aj (cZ FV rfl rfl (bH hD_6) rfl wz (bC vk Gm rfl (.d (.agg (Rect.enc x_5))) rfl wz (dE 0 (.inl rfl) z68 rfl wz (λn_16=>fo 0 il ft 1 vk rfl rfl (Rect.v x_5) rfl wz (af (au ?_))))))))
   obtain ⟨v_17,h_18,hc_12⟩:=bind_some hc_12
   refine aR [(1,(vI y_2)),(5,(gV n_11 2 s_8)),(7,(.ref n_16 0 0)),(12,(vL Rect.enc l_1)),(13,(vI (l_1.length:Int))),(14,(vI (k_3:Int))),(30,(vB v_17))] [(n_11,gB 2 Run.enc s_8),(n_16,some (.cells 4 (Rect.v x_5)))] ?_ ?_
   ·refine av (aI vC rfl 1 rfl wz (aG 0 1 il ft sz3 ag3 rfl rfl (vI x_5.Y) rfl wz (aa (vI y_2) (aa (vB (decide (x_5.Y<=y_2))) ?_))))
    rcases ak h_18 with⟨hc_19,h_18⟩|⟨hc_19,h_18⟩
    ·refine aD rfl hc_19 wz (aJ (vI y_2) wa rfl (aI vC rfl 1 rfl wa (aG 0 1 il ft sz3 ag3 rfl rfl (vI x_5.Y) rfl wa (aI BQ rfl 3 rfl wa (aG 0 1 il ft sz3 ag3 rfl rfl (vI x_5.H) rfl wa (aJ (vI (w64 (x_5.Y+x_5.H))) wa rfl (aJ (vB (decide (y_2<(w64 (x_5.Y+x_5.H))))) wa rfl (aa (vB (decide (y_2<(w64 (x_5.Y+x_5.H))))) (af ?_)))))))))
     obtain rfl:=ae h_18
     exact cu
    ·refine aD rfl hc_19 wz (ah (ah (ah (ah (ah (ah (ah (aa (vB false) (af ?_)))))))))
     obtain rfl:=ae h_18
     exact cu
   ·rintro ⟨⟩ _ sl_ H_ hp_ hq_
    refine aQ _ hp_ hq_ ?_
    obtain ⟨v_20,h_21,hc_12⟩:=bind_some hc_12
    refine kZ (β:=Nm) (λ(n_22:Nm)=>([(1,(vI y_2)),(5,(gV n_22 2 v_20)),(12,(vL Rect.enc l_1)),(13,(vI (l_1.length:Int))),(14,(vI (k_3:Int)))]:SL_)) (λ(n_22:Nm)=>([(n_22,gB 2 Run.enc v_20),(n_16,some (.cells 4 (Rect.v x_5)))]:Hp)) (λ_=>True) ?_ ?_
    ·rcases ak h_21 with⟨hc_23,h_21⟩|⟨hc_23,h_21⟩
     ·refine aB rfl hc_23 (av (aa (gV n_11 2 s_8) (aI zk rfl 0 rfl wz (aG 0 1 il ft sz3 ag3 rfl rfl (vI x_5.X) rfl wz (aI zk rfl 0 rfl wz (aG 0 1 il ft sz3 ag3 rfl rfl (vI x_5.X) rfl wz (aI Gj rfl 2 rfl wz (aG 0 1 il ft sz3 ag3 rfl rfl (vI x_5.W) rfl wz (aa (vI (w64 (x_5.X+x_5.W))) (aJ (.d (.agg (Run.enc (⟨x_5.X,(w64 (x_5.X+x_5.W))⟩:Run)))) wz (by kernel_rfl) (dW (([(⟨x_5.X,(w64 (x_5.X+x_5.W))⟩:Run)]:List Run).map Run.enc) kC JV rfl rfl rfl rfl rfl wz ?_)))))))))))
      obtain ⟨a_24,hz_25,h_21⟩:=bind_some h_21
      refine jV 0 il ft (i:=0) AV AV mG z139 rfl (by decide) Kc (by decide) (λ_=>rfl) rfl rfl rfl hz_25 wz (λn_26=>aa (gV n_26 2 a_24) (af ?_))
      obtain rfl:=ae h_21
      exact aZ n_26 trivial rfl (aL rfl)
     ·refine aA rfl hc_23 (ax ?_)
      obtain rfl:=ae h_21
      exact aZ n_11 trivial rfl (aL rfl)
    ·rintro n_22 _ sl_ H_ hp_ hq_
     refine aQ _ hp_ hq_ (av (eY (bD hD_6 hn_7) wz rfl (aa (vI ((k_3+1:Nat):Int)) (af ?_))))
     obtain rfl:=ae hc_12
     exact aY (k_3+1,l_4,v_20,n_22) ⟨hL_13,aV hD_6⟩ (ls_ _) rfl (aL rfl)
 ·rintro ⟨s_8,n_11⟩ ho_ sl_ H_ hp_ hq_
  subst ho_
  refine aQ _ hp_ hq_ (aj (aa (gV n_11 2 s_8) ?_))
  obtain ⟨r_27,hr_28,hF⟩:=bind_some hF
  obtain ⟨_,hs_29,hF⟩:=bind_some hF
  replace hs_29:=ze hs_29
  refine wI 0 [] 0 0 il ft (jE hr_28) rfl hb109 rfl rfl rfl (by kernel_rfl) rfl (.inl rfl) rfl (by kernel_rfl) (by kernel_rfl) (by kernel_rfl) (by kernel_rfl) rfl (by decide) (by kernel_rfl) yY (Ho hs_29) wz ([(n_11,gB 2 Run.enc r_27)]:Hp) (by kernel_rfl) (lm (v':=(gV n_11 2 r_27)) 43 rfl (rG hs_29.symm) (lm (v':=(gV n_11 2 r_27)) 5 rfl (rG hs_29.symm) (af (aj (aa .nil (af (au (aj (aa (gV n_11 2 r_27) (IE xB rfl wz (aa (vI 0) (af (gH 0 rfl (fO 5 0 rfl rfl (fO 43 0 rfl rfl (fO 45 0 rfl rfl (lJ (λn_36 => ?_))))))))))))))))))
  obtain ⟨o_41,hj_42,hF⟩:=bind_some hF
  obtain ⟨hn_34,hj_42⟩:=aX hj_42
  refine fV (σ:=(List Run)) (N:=Nm) (λp=>(λ(s_35:List Run) (n_38:Nm)=>([(8,(gV n_38 2 s_35))]:SL_)) p.1 p.2) (λp=>(λ(s_35:List Run) (n_38:Nm)=>([(n_11,gF 2 Run.enc r_27),(n_38,gB 2 Run.enc s_35)]:Hp)) p.1 p.2) (λ(k_30:Nat)=>(λp=>(λ(s_35:List Run) (n_38:Nm)=>([(8,(gV n_38 2 s_35)),(45,(vL Run.enc r_27)),(46,(vI (r_27.length:Int))),(47,(vI (k_30:Int)))]:SL_)) p.1 p.2)) (λk x s=>mX k x s) o_41 r_27 (([]:List Run),n_36) hj_42 rfl (aL rfl) ?_ ?_
  ·rintro ⟨k_30,l_31,s_35,n_38⟩ ⟨hL_40,hD_33⟩
   dsimp only at hL_40 hD_33
   cases l_31 with
   | nil =>
    obtain rfl:=ae hL_40
    refine aj (aa (vB (decide ((k_30:Int)<(r_27.length:Int)))) (af ?_))
    refine au (aA rfl (drop_nil hD_33) (bg ?_))
    exact aZ (s_35,n_38) rfl rfl (aL rfl)
   | cons x_32 l_31 =>
    obtain ⟨c_,hc_39,hL_40⟩:=bind_some hL_40
    refine aj (aa (vB (decide ((k_30:Int)<(r_27.length:Int)))) (af ?_))
    refine au (aB rfl (bz hD_33) (ax ?_))
    unfold mX at hc_39
    refine au (aO (aj (cZ kC rfl rfl (bH hD_33) rfl wz (bC mG vY rfl (.d (.agg (Run.enc x_32))) rfl wz (dE 0 (.inl rfl) z139 rfl wz (λn_43=>fo 0 il ft 2 mG rfl rfl [(vI x_32.f_from),(vI x_32.f_to)] rfl wz (af (aj (aa (gV n_38 2 s_35) (IE xB rfl wz (aa (vI (w64 ((s_35.length:Int)-1))) (aa (vI (w64 ((s_35.length:Int)-1))) (af (au ?_))))))))))))))
    obtain ⟨v_44,h_45,hc_39⟩:=bind_some hc_39
    refine aR [(8,(gV n_38 2 s_35)),(10,(.ref n_43 0 0)),(11,(vI (w64 ((s_35.length:Int)-1)))),(45,(vL Run.enc r_27)),(46,(vI (r_27.length:Int))),(47,(vI (k_30:Int))),(65,(vB v_44))] [(n_11,gF 2 Run.enc r_27),(n_38,gB 2 Run.enc s_35),(n_43,some (.cells 2 [(vI x_32.f_from),(vI x_32.f_to)]))] ?_ ?_
    ·refine bL (aa (vI (w64 ((s_35.length:Int)-1))) (aa (vB (decide ((w64 ((s_35.length:Int)-1))>=0))) ?_))
     rcases ak h_45 with⟨hc_46,h_45⟩|⟨hc_46,h_45⟩
     ·refine aD rfl hc_46 wz (aI kr rfl 0 rfl wa (aG 4 2 (.inr (by kernel_rfl)) (λ_ _ ag=>trivial) sz3 ag3 rfl rfl (vI x_32.f_from) rfl wa (aJ (gV n_38 2 s_35) wa rfl (aJ (vI (w64 ((s_35.length:Int)-1))) wa rfl ?_))))
      obtain ⟨_,hi_47,h_45⟩:=bind_some h_45
      refine CQ kC rfl rfl (ru hi_47) (mM hi_47) wa (aI p8 rfl 1 rfl wa ?_)
      obtain ⟨e_48,hy_49,h_45⟩:=bind_some h_45
      refine uB 9 1 (.inr (by kernel_rfl)) (λ_ _ ag=>⟨.inl ⟨rfl,rfl⟩,trivial⟩) sz3 ag3 rfl rfl hy_49 (vI e_48.f_to) rfl wa (aJ (vB (decide (x_32.f_from<=e_48.f_to))) wa rfl (aa (vB (decide (x_32.f_from<=e_48.f_to))) (af ?_)))
      obtain rfl:=ae h_45
      exact cu
     ·refine aD rfl hc_46 wz (ah (ah (ah (ah (ah (ah (ah (ah (aa (vB false) (af ?_))))))))))
      obtain rfl:=ae h_45
      exact cu
    ·rintro ⟨⟩ _ sl_ H_ hp_ hq_
     refine aQ _ hp_ hq_ ?_
     obtain ⟨v_50,h_51,hc_39⟩:=bind_some hc_39
     refine kZ (β:=Nm) (λ(n_52:Nm)=>([(8,(gV n_52 2 v_50)),(45,(vL Run.enc r_27)),(46,(vI (r_27.length:Int))),(47,(vI (k_30:Int)))]:SL_)) (λ(n_52:Nm)=>([(n_11,gF 2 Run.enc r_27),(n_52,gB 2 Run.enc v_50),(n_43,some (.cells 2 [(vI x_32.f_from),(vI x_32.f_to)]))]:Hp)) (λ_=>True) ?_ ?_
     ·rcases ak h_51 with⟨hc_53,h_51⟩|⟨hc_53,h_51⟩
      ·refine aB rfl hc_53 (bL (aa (gV n_38 2 s_35) (aa (vI (w64 ((s_35.length:Int)-1))) (aa (gV n_38 2 s_35) (aa (vI (w64 ((s_35.length:Int)-1))) ?_)))))
       obtain ⟨_,hi_54,h_51⟩:=bind_some h_51
       refine CQ kC rfl rfl (ru hi_54) (mM hi_54) wz (aI p8 rfl 1 rfl wz ?_)
       obtain ⟨e_55,hy_56,h_51⟩:=bind_some h_51
       refine uB 6 1 (.inr (by kernel_rfl)) (λ_ _ ag=>trivial) sz3 ag3 rfl rfl hy_56 (vI e_55.f_to) rfl wz (aI p8 rfl 1 rfl wz (aG 8 2 (.inr (by kernel_rfl)) (λ_ _ ag=>⟨.inl ⟨rfl,rfl⟩,trivial⟩) sz3 ag3 rfl rfl (vI x_32.f_to) rfl wz (rU (vI (sw e_55.f_to x_32.f_to)) rfl (.inr rfl) wz ?_)))
       obtain ⟨_,hi_57,h_51⟩:=bind_some h_51
       refine CQ kC rfl rfl (ru hi_57) (mM hi_57) wz (aI p8 rfl 1 rfl wz ?_)
       obtain ⟨e_58,hy_59,h_51⟩:=bind_some h_51
       refine F6 12 (.inr (by kernel_rfl)) (λ_ _ ag=>⟨.inr (.inr (by kernel_rfl)),⟨.inr (.inr (by kernel_rfl)),trivial⟩⟩) 1 sz3 rfl rfl hy_59 (⟨e_58.f_from,(sw e_55.f_to x_32.f_to)⟩:Run) rfl wz (lm (v':=(gV n_38 2 (s_35.set (0+((w64 ((s_35.length:Int)-1))).toNat) (⟨e_58.f_from,(sw e_55.f_to x_32.f_to)⟩:Run)))) 8 rfl (rG (by simp)) (lm (v':=(gV n_38 2 (s_35.set (0+((w64 ((s_35.length:Int)-1))).toNat) (⟨e_58.f_from,(sw e_55.f_to x_32.f_to)⟩:Run)))) 66 rfl (rG (by simp)) (lm (v':=(gV n_38 2 (s_35.set (0+((w64 ((s_35.length:Int)-1))).toNat) (⟨e_58.f_from,(sw e_55.f_to x_32.f_to)⟩:Run)))) 68 rfl (rG (by simp)) (af ?_))))
       obtain rfl:=ae h_51
       exact aZ n_38 trivial rfl (aL rfl)
      ·refine aA rfl hc_53 (av (aa (gV n_38 2 s_35) (aG 0 2 il ft mG vY rfl rfl (.d (.agg (Run.enc x_32))) rfl wz (dW (([x_32]:List Run).map Run.enc) kC JV rfl rfl rfl rfl rfl wz ?_))))
       obtain ⟨a_60,hz_61,h_51⟩:=bind_some h_51
       refine jV 0 il ft (i:=1) AV AV mG z139 rfl (by decide) Kc (by decide) (λ_=>rfl) rfl rfl rfl hz_61 wz (λn_62=>aa (gV n_62 2 a_60) (af ?_))
       obtain rfl:=ae h_51
       exact aZ n_62 trivial rfl (aL rfl)
     ·rintro n_52 _ sl_ H_ hp_ hq_
      refine aQ _ hp_ hq_ (av (eY (bD hD_33 hn_34) wz rfl (aa (vI ((k_30+1:Nat):Int)) (af ?_))))
      obtain rfl:=ae hc_39
      exact aY (k_30+1,l_31,v_50,n_52) ⟨hL_40,aV hD_33⟩ (ls_ _) rfl (aL rfl)
  ·rintro ⟨s_35,n_38⟩ ho_ sl_ H_ hp_ hq_
   subst ho_
   refine aQ _ hp_ hq_ (aj (aa (gV n_38 2 s_35) (aa (gV n_38 2 s_35) (af (gH 1 rfl (fO 4 1 rfl rfl (fO 8 1 rfl rfl (fO 83 1 rfl rfl ?_))))))))
   obtain rfl:=ae hF
   exact ay (aK [(vL Run.enc s_35)] ⟨rfl,trivial⟩)
theorem Cy {l_1:(List Run)} {m_2:(List Run)} {r:(List Run)} (hF:oM l_1 m_2=some r) :
  FnM Tryz.prog 81 [(vL Run.enc l_1),(vL Run.enc m_2)] [] (vL Run.enc r) []:=by
 refine FnM.of_wH ⟨Tryz.prog,88,[],[]⟩ rfl Tryz.func81 rfl rfl (lb_ rfl) (by kernel_rfl) ?_
 unfold oM at hF
 refine aj (aa .nil (af (aj (aa .nil (af (aj (aa (vI 0) (af (au (aj (aa (vL Run.enc l_1) (bI xB rfl wz (aa (vI 0) (af (lJ (λn_9 => ?_))))))))))))))))
 obtain ⟨o_14,hj_15,hF⟩:=bind_some hF
 obtain ⟨hn_7,hj_15⟩:=aX hj_15
 refine fV (σ:=(List Run)×Int) (N:=Nm) (λp=>(λ(s_8:(List Run)×Int) (n_11:Nm)=>([(5,(gV n_11 2 s_8.1))]:SL_)) p.1 p.2) (λp=>(λ(s_8:(List Run)×Int) (n_11:Nm)=>([(n_11,gB 2 Run.enc s_8.1)]:Hp)) p.1 p.2) (λ(k_3:Nat)=>(λp=>(λ(s_8:(List Run)×Int) (n_11:Nm)=>([(1,(vL Run.enc m_2)),(5,(gV n_11 2 s_8.1)),(6,(vI s_8.2)),(10,(vL Run.enc l_1)),(11,(vI (l_1.length:Int))),(12,(vI (k_3:Int)))]:SL_)) p.1 p.2)) (λk x s=>kL m_2 k x s) o_14 l_1 ((([]:List Run),0),n_9) hj_15 rfl (aL rfl) ?_ ?_
 ·rintro ⟨k_3,l_4,s_8,n_11⟩ ⟨hL_13,hD_6⟩
  dsimp only at hL_13 hD_6
  cases l_4 with
  | nil =>
   obtain rfl:=ae hL_13
   refine aj (aa (vB (decide ((k_3:Int)<(l_1.length:Int)))) (af ?_))
   refine au (aA rfl (drop_nil hD_6) (bg ?_))
   exact aZ (s_8,n_11) rfl rfl (aL rfl)
  | cons x_5 l_4 =>
   obtain ⟨c_,hc_12,hL_13⟩:=bind_some hL_13
   refine aj (aa (vB (decide ((k_3:Int)<(l_1.length:Int)))) (af ?_))
   refine au (aB rfl (bz hD_6) (ax ?_))
   unfold kL at hc_12
   refine au (aO (aj (cZ kC rfl rfl (bH hD_6) rfl wz (bC mG vY rfl (.d (.agg (Run.enc x_5))) rfl wz (dE 0 (.inl rfl) z139 rfl wz (λn_16=>fo 0 il ft 1 mG rfl rfl [(vI x_5.f_from),(vI x_5.f_to)] rfl wz (af (au ?_))))))))
   obtain ⟨o_25,hj_26,hc_12⟩:=bind_some hc_12
   obtain ⟨nq_72,hj_26⟩:=gu hj_26
   refine jB (λ(s_22:Int)=>[(1,(vL Run.enc m_2)),(5,(gV n_11 2 s_8.1)),(6,(vI s_22)),(8,(.ref n_16 0 0)),(10,(vL Run.enc l_1)),(11,(vI (l_1.length:Int))),(12,(vI (k_3:Int)))]) (λ(s_22:Int)=>[(n_11,gB 2 Run.enc s_8.1),(n_16,some (.cells 2 [(vI x_5.f_from),(vI x_5.f_to)]))]) (λ(k_17:Nat)=>(λ(s_22:Int)=>[(1,(vL Run.enc m_2)),(5,(gV n_11 2 s_8.1)),(6,(vI s_22)),(8,(.ref n_16 0 0)),(10,(vL Run.enc l_1)),(11,(vI (l_1.length:Int))),(12,(vI (k_3:Int)))])) (λs=>mP m_2 x_5 s) o_25 nq_72 s_8.2 hj_26 rfl (aL rfl) ?_ ?_
   ·rintro ⟨k_17,s_22⟩ hL_24
    dsimp only at hL_24
    cases k_17 with
    | zero=>cases hL_24
    | succ k_17 =>
     obtain ⟨c_,hc_23,hL_24⟩:=bind_some hL_24
     unfold mP at hc_23
     refine au (au ?_)
     obtain ⟨v_27,h_28,hc_23⟩:=bind_some hc_23
     refine aR [(1,(vL Run.enc m_2)),(5,(gV n_11 2 s_8.1)),(6,(vI s_22)),(8,(.ref n_16 0 0)),(10,(vL Run.enc l_1)),(11,(vI (l_1.length:Int))),(12,(vI (k_3:Int))),(29,(vB v_27))] [(n_11,gB 2 Run.enc s_8.1),(n_16,some (.cells 2 [(vI x_5.f_from),(vI x_5.f_to)]))] ?_ ?_
     ·refine bL (aa (vI s_22) (aa (vL Run.enc m_2) (bI xB rfl wz (aa (vB (decide (s_22<(m_2.length:Int)))) ?_))))
      rcases ak h_28 with⟨hc_29,h_28⟩|⟨hc_29,h_28⟩
      ·refine aD rfl hc_29 wz (aJ (vL Run.enc m_2) wa rfl (aJ (vI s_22) wa rfl ?_))
       obtain ⟨y_30,hy_31,h_28⟩:=bind_some h_28
       refine cZ kC rfl rfl hy_31 rfl wa (qi p8 rfl [.int .i64 y_30.f_to] rfl rfl wa (bC sz3 ag3 rfl (vI y_30.f_to) rfl wa (aI kr rfl 0 rfl wa (aG 11 1 (.inr (by kernel_rfl)) (λ_ _ ag=>trivial) sz3 ag3 rfl rfl (vI x_5.f_from) rfl wa (aJ (vB (decide (y_30.f_to<=x_5.f_from))) wa rfl (aa (vB (decide (y_30.f_to<=x_5.f_from))) (af ?_)))))))
       obtain rfl:=ae h_28
       exact cu
      ·refine aD rfl hc_29 wz (ah (ah (ah (ah (ah (ah (ah (ah (aa (vB false) (af ?_))))))))))
       obtain rfl:=ae h_28
       exact cu
     ·rintro ⟨⟩ _ sl_ H_ hp_ hq_
      refine aQ _ hp_ hq_ ?_
      rcases ak hc_23 with⟨hc_32,hc_23⟩|⟨hc_32,hc_23⟩
      ·refine aB rfl hc_32 (ax (aO (av (aa (vI s_22) (aa (vI (w64 (s_22+1))) (aa (vI (w64 (s_22+1))) (af ?_)))))))
       obtain rfl:=ae hc_23
       exact aY (k_17,(w64 (s_22+1))) hL_24 (ls_ _) rfl (aL rfl)
      ·refine aA rfl hc_32 (bg ?_)
       obtain rfl:=ae hc_23
       obtain rfl:=ae hL_24
       exact aZ (s_22) rfl rfl (aL rfl)
   ·rintro s_22 ho_ sl_ H_ hp_ hq_
    subst ho_
    refine aQ _ hp_ hq_ (au (aj (aa (vI s_22) (aa (vI s_22) (af ?_)))))
    obtain ⟨o_43,hj_44,hc_12⟩:=bind_some hc_12
    obtain ⟨nq_71,hj_44⟩:=gu hj_44
    refine Ht (σ:=(List Run)×Int×Int) (N:=Nm) (λp=>(λ(s_38:(List Run)×Int×Int) (n_40:Nm)=>([(1,(vL Run.enc m_2)),(5,(gV n_40 2 s_38.1)),(6,(vI s_22)),(8,(.ref n_16 0 0)),(10,(vL Run.enc l_1)),(11,(vI (l_1.length:Int))),(12,(vI (k_3:Int)))]:SL_)) p.1 p.2) (λp=>(λ(s_38:(List Run)×Int×Int) (n_40:Nm)=>([(n_40,gB 2 Run.enc s_38.1),(n_16,some (.cells 2 [(vI s_38.2.2),(vI x_5.f_to)]))]:Hp)) p.1 p.2) (λ(k_33:Nat)=>(λp=>(λ(s_38:(List Run)×Int×Int) (n_40:Nm)=>([(1,(vL Run.enc m_2)),(5,(gV n_40 2 s_38.1)),(6,(vI s_22)),(8,(.ref n_16 0 0)),(9,(vI s_38.2.1)),(10,(vL Run.enc l_1)),(11,(vI (l_1.length:Int))),(12,(vI (k_3:Int)))]:SL_)) p.1 p.2)) (λs=>mY m_2 x_5 s) o_43 nq_71 ((s_8.1,s_22,x_5.f_from),n_11) hj_44 rfl (aL rfl) ?_ ?_
    ·rintro ⟨k_33,s_38,n_40⟩ hL_42
     dsimp only at hL_42
     cases k_33 with
     | zero=>cases hL_42
     | succ k_33 =>
      obtain ⟨c_,hc_41,hL_42⟩:=bind_some hL_42
      unfold mY at hc_41
      refine au (au ?_)
      obtain ⟨v_45,h_46,hc_41⟩:=bind_some hc_41
      refine aR [(1,(vL Run.enc m_2)),(5,(gV n_40 2 s_38.1)),(6,(vI s_22)),(8,(.ref n_16 0 0)),(9,(vI s_38.2.1)),(10,(vL Run.enc l_1)),(11,(vI (l_1.length:Int))),(12,(vI (k_3:Int))),(46,(vB v_45))] [(n_40,gB 2 Run.enc s_38.1),(n_16,some (.cells 2 [(vI s_38.2.2),(vI x_5.f_to)]))] ?_ ?_
      ·refine bL (aa (vI s_38.2.1) (aa (vL Run.enc m_2) (bI xB rfl wz (aa (vB (decide (s_38.2.1<(m_2.length:Int)))) ?_))))
       rcases ak h_46 with⟨hc_47,h_46⟩|⟨hc_47,h_46⟩
       ·refine aD rfl hc_47 wz (aJ (vL Run.enc m_2) wa rfl (aJ (vI s_38.2.1) wa rfl ?_))
        obtain ⟨y_48,hy_49,h_46⟩:=bind_some h_46
        refine cZ kC rfl rfl hy_49 rfl wa (qi kr rfl [.int .i64 y_48.f_from,.int .i64 y_48.f_to] rfl rfl wa (bC sz3 ag3 rfl (vI y_48.f_from) rfl wa (aI p8 rfl 1 rfl wa (aG 11 1 (.inr (by kernel_rfl)) (λ_ _ ag=>trivial) sz3 ag3 rfl rfl (vI x_5.f_to) rfl wa (aJ (vB (decide (y_48.f_from<x_5.f_to))) wa rfl (aa (vB (decide (y_48.f_from<x_5.f_to))) (af ?_)))))))
        obtain rfl:=ae h_46
        exact cu
       ·refine aD rfl hc_47 wz (ah (ah (ah (ah (ah (ah (ah (ah (aa (vB false) (af ?_))))))))))
        obtain rfl:=ae h_46
        exact cu
      ·rintro ⟨⟩ _ sl_ H_ hp_ hq_
       refine aQ _ hp_ hq_ ?_
       rcases ak hc_41 with⟨hc_50,hc_41⟩|⟨hc_50,hc_41⟩
       ·refine aB rfl hc_50 (ax (au (aO (au (au (bL (aa (vL Run.enc m_2) (aa (vI s_38.2.1) ?_))))))))
        obtain ⟨y_51,hy_52,hc_41⟩:=bind_some hc_41
        refine cZ kC rfl rfl hy_52 rfl wz (qi kr rfl [.int .i64 y_51.f_from,.int .i64 y_51.f_to] rfl rfl wz (bC sz3 ag3 rfl (vI y_51.f_from) rfl wz (aI kr rfl 0 rfl wz (aG 6 1 (.inr (by kernel_rfl)) (λ_ _ ag=>trivial) sz3 ag3 rfl rfl (vI s_38.2.2) rfl wz (aa (vB (decide (y_51.f_from>s_38.2.2))) (af ?_))))))
        obtain ⟨v_53,h_54,hc_41⟩:=bind_some hc_41
        refine kZ (β:=Nm) (λ(n_55:Nm)=>([(1,(vL Run.enc m_2)),(5,(gV n_55 2 v_53)),(6,(vI s_22)),(8,(.ref n_16 0 0)),(9,(vI s_38.2.1)),(10,(vL Run.enc l_1)),(11,(vI (l_1.length:Int))),(12,(vI (k_3:Int)))]:SL_)) (λ(n_55:Nm)=>([(n_55,gB 2 Run.enc v_53),(n_16,some (.cells 2 [(vI s_38.2.2),(vI x_5.f_to)]))]:Hp)) (λ_=>True) ?_ ?_
        ·rcases ak h_54 with⟨hc_56,h_54⟩|⟨hc_56,h_54⟩
         ·refine aB rfl hc_56 (bL (aa (gV n_40 2 s_38.1) (aI kr rfl 0 rfl wz (aG 2 1 (.inr (by kernel_rfl)) (λ_ _ ag=>trivial) sz3 ag3 rfl rfl (vI s_38.2.2) rfl wz (aa (vL Run.enc m_2) (aa (vI s_38.2.1) ?_))))))
          obtain ⟨y_57,hy_58,h_54⟩:=bind_some h_54
          refine cZ kC rfl rfl hy_58 rfl wz (qi kr rfl [.int .i64 y_57.f_from,.int .i64 y_57.f_to] rfl rfl wz (bC sz3 ag3 rfl (vI y_57.f_from) rfl wz (aJ (.d (.agg (Run.enc (⟨s_38.2.2,y_57.f_from⟩:Run)))) wz (by kernel_rfl) (dW (([(⟨s_38.2.2,y_57.f_from⟩:Run)]:List Run).map Run.enc) kC JV rfl rfl rfl rfl rfl wz ?_))))
          obtain ⟨a_59,hz_60,h_54⟩:=bind_some h_54
          refine jV 10 (.inr (by kernel_rfl)) (λ_ _ ag=>⟨.inr (.inr (by kernel_rfl)),trivial⟩) (i:=0) AV AV mG z139 rfl (by decide) Kc (by decide) (λ_=>rfl) rfl rfl rfl hz_60 wz (λn_61=>aa (gV n_61 2 a_59) (af ?_))
          obtain rfl:=ae h_54
          exact aZ n_61 trivial rfl (aL rfl)
         ·refine aA rfl hc_56 (ax ?_)
          obtain rfl:=ae h_54
          exact aZ n_40 trivial rfl (aL rfl)
        ·rintro n_55 _ sl_ H_ hp_ hq_
         refine aQ _ hp_ hq_ (bL (aI kr rfl 0 rfl wz (aG 1 1 (.inr (by kernel_rfl)) (λ_ _ ag=>trivial) sz3 ag3 rfl rfl (vI s_38.2.2) rfl wz (aa (vL Run.enc m_2) (aa (vI s_38.2.1) ?_)))))
         obtain ⟨y_62,hy_63,hc_41⟩:=bind_some hc_41
         refine cZ kC rfl rfl hy_63 rfl wz (qi p8 rfl [.int .i64 y_62.f_to] rfl rfl wz (bC sz3 ag3 rfl (vI y_62.f_to) rfl wz (rU (vI (sw s_38.2.2 y_62.f_to)) rfl (.inr rfl) wz (aI kr rfl 0 rfl wz (fo 9 (.inr (by kernel_rfl)) (λ_ _ ag=>⟨.inr (.inr (by kernel_rfl)),trivial⟩) 1 sz3 rfl rfl [(vI (sw s_38.2.2 y_62.f_to)),(vI x_5.f_to)] rfl wz (af (av (aa (vI s_38.2.1) (aa (vI (w64 (s_38.2.1+1))) (aa (vI (w64 (s_38.2.1+1))) (af ?_)))))))))))
         obtain rfl:=ae hc_41
         exact aY (k_33,(v_53,(w64 (s_38.2.1+1)),(sw s_38.2.2 y_62.f_to)),n_55) hL_42 (ls_ _) rfl (aL rfl)
       ·refine aA rfl hc_50 (bg ?_)
        obtain rfl:=ae hc_41
        obtain rfl:=ae hL_42
        exact aZ ((s_38.1,s_38.2.1,s_38.2.2),n_40) rfl rfl (aL rfl)
    ·rintro ⟨s_38,n_40⟩ ho_ sl_ H_ hp_ hq_
     subst ho_
     refine aQ _ hp_ hq_ (aj (aI kr rfl 0 rfl wz (aG 0 1 il ft sz3 ag3 rfl rfl (vI s_38.2.2) rfl wz (aI p8 rfl 1 rfl wz (aG 0 1 il ft sz3 ag3 rfl rfl (vI x_5.f_to) rfl wz (aa (vB (decide (s_38.2.2<x_5.f_to))) (af ?_)))))))
     obtain ⟨v_64,h_65,hc_12⟩:=bind_some hc_12
     refine kZ (β:=Nm) (λ(n_66:Nm)=>([(1,(vL Run.enc m_2)),(5,(gV n_66 2 v_64)),(6,(vI s_22)),(10,(vL Run.enc l_1)),(11,(vI (l_1.length:Int))),(12,(vI (k_3:Int)))]:SL_)) (λ(n_66:Nm)=>([(n_66,gB 2 Run.enc v_64),(n_16,some (.cells 2 [(vI s_38.2.2),(vI x_5.f_to)]))]:Hp)) (λ_=>True) ?_ ?_
     ·rcases ak h_65 with⟨hc_67,h_65⟩|⟨hc_67,h_65⟩
      ·refine aB rfl hc_67 (av (aa (gV n_40 2 s_38.1) (aG 0 1 il ft mG vY rfl rfl (.d (.agg (Run.enc (⟨s_38.2.2,x_5.f_to⟩:Run)))) rfl wz (dW (([(⟨s_38.2.2,x_5.f_to⟩:Run)]:List Run).map Run.enc) kC JV rfl rfl rfl rfl rfl wz ?_))))
       obtain ⟨a_68,hz_69,h_65⟩:=bind_some h_65
       refine jV 0 il ft (i:=0) AV AV mG z139 rfl (by decide) Kc (by decide) (λ_=>rfl) rfl rfl rfl hz_69 wz (λn_70=>aa (gV n_70 2 a_68) (af ?_))
       obtain rfl:=ae h_65
       exact aZ n_70 trivial rfl (aL rfl)
      ·refine aA rfl hc_67 (ax ?_)
       obtain rfl:=ae h_65
       exact aZ n_40 trivial rfl (aL rfl)
     ·rintro n_66 _ sl_ H_ hp_ hq_
      refine aQ _ hp_ hq_ (av (eY (bD hD_6 hn_7) wz rfl (aa (vI ((k_3+1:Nat):Int)) (af ?_))))
      obtain rfl:=ae hc_12
      exact aY (k_3+1,l_4,(v_64,s_22),n_66) ⟨hL_13,aV hD_6⟩ (ls_ _) rfl (aL rfl)
 ·rintro ⟨s_8,n_11⟩ ho_ sl_ H_ hp_ hq_
  subst ho_
  refine aQ _ hp_ hq_ (aj (aa (gV n_11 2 s_8.1) (aa (gV n_11 2 s_8.1) (af (gH 0 rfl (fO 4 0 rfl rfl (fO 5 0 rfl rfl (fO 87 0 rfl rfl ?_))))))))
  obtain rfl:=ae hF
  exact ay (aK [(vL Run.enc s_8.1)] ⟨rfl,trivial⟩)
theorem kW {s1_1:(List Run)} {s2_2:(List Run)} {r:Bool} (hF:dC s1_1 s2_2=some r) :
  FnM Tryz.prog 83 [(vL Run.enc s1_1),(vL Run.enc s2_2)] [] (vB r) []:=by
 refine FnM.of_wH ⟨Tryz.prog,26,[],[]⟩ rfl Tryz.func83 rfl rfl (lb_ rfl) (by kernel_rfl) ?_
 unfold dC at hF
 refine aj (aa (vB false) (af (au (aj (aa (vL Run.enc s1_1) (bI xB rfl wz (aa (vL Run.enc s2_2) (bI xB rfl wz (aa (vB ((s1_1.length:Int) != (s2_2.length:Int))) (af ?_))))))))))
 rcases ak hF with⟨hc_3,hF⟩|⟨hc_3,hF⟩
 ·refine aB rfl hc_3 (aj (aa (vB false) (af ?_)))
  obtain rfl:=ae hF
  exact ay (aK [(vB false)] ⟨rfl,trivial⟩)
 ·refine aA rfl hc_3 (ax (au (aj (aa (vL Run.enc s1_1) (bI xB rfl wz (aa (vI 0) (af ?_)))))))
  obtain ⟨o_12,hj_13,hF⟩:=bind_some hF
  obtain ⟨hn_8,hj_13⟩:=aX hj_13
  refine di (λ(s_9:Unit)=>[]) (λ(s_9:Unit)=>[]) (λ(k_4:Nat)=>(λ(s_9:Unit)=>[(0,(vL Run.enc s1_1)),(1,(vL Run.enc s2_2)),(12,(vI (s1_1.length:Int))),(13,(vI (k_4:Int)))])) (λk x s=>eu s2_2 k x s) o_12 s1_1 () hj_13 rfl (aL rfl) ?_ ?_
  ·rintro ⟨k_4,l_5,s_9⟩ ⟨hL_11,hD_7⟩
   dsimp only at hL_11 hD_7
   cases l_5 with
   | nil =>
    obtain rfl:=ae hL_11
    refine aj (aa (vB (decide ((k_4:Int)<(s1_1.length:Int)))) (af ?_))
    refine au (aA rfl (drop_nil hD_7) (bg ?_))
    exact aZ (s_9) rfl rfl (aL rfl)
   | cons x_6 l_5 =>
    obtain ⟨c_,hc_10,hL_11⟩:=bind_some hL_11
    refine aj (aa (vB (decide ((k_4:Int)<(s1_1.length:Int)))) (af ?_))
    refine au (aB rfl (bz hD_7) (ax ?_))
    unfold eu at hc_10
    refine au (aO (aj (aa (vI (k_4:Int)) (aa (vI (k_4:Int)) (af (au (bL (aa (vL Run.enc s1_1) (aa (vI (k_4:Int)) (cZ kC rfl rfl (bH hD_7) rfl wz (bC mG vY rfl (.d (.agg (Run.enc x_6))) rfl wz (aa (vL Run.enc s2_2) (aa (vI (k_4:Int)) ?_)))))))))))))
    obtain ⟨y_14,hy_15,hc_10⟩:=bind_some hc_10
    refine cZ kC rfl rfl hy_15 rfl wz (bC mG vY rfl (.d (.agg (Run.enc y_14))) rfl wz (aJ (vB (!((x_6.f_from==y_14.f_from)&&((x_6.f_to==y_14.f_to)&&true)))) wz (by kernel_rfl) (af ?_)))
    rcases ak hc_10 with⟨hc_16,hc_10⟩|⟨hc_16,hc_10⟩
    ·refine aB rfl hc_16 (aj (aa (vB false) (af ?_)))
     obtain rfl:=ae hc_10
     obtain rfl:=ae hL_11
     obtain rfl:=ae hF
     exact ay (aK [(vB false)] ⟨rfl,trivial⟩)
    ·refine aA rfl hc_16 (ax (av (eY (bD hD_7 hn_8) wz rfl (aa (vI ((k_4+1:Nat):Int)) (af ?_)))))
     obtain rfl:=ae hc_10
     exact aY (k_4+1,l_5,()) ⟨hL_11,aV hD_7⟩ (ls_ _) rfl (aL rfl)
  ·rintro s_9 ho_ sl_ H_ hp_ hq_
   subst ho_
   refine aQ _ hp_ hq_ (aj (aa (vB true) (af ?_)))
   obtain rfl:=ae hF
   exact ay (aK [(vB true)] ⟨rfl,trivial⟩)
theorem zR {l_1:(List Rect)} {m_2:(List Rect)} {r:(List Rect)} (hF:lS l_1 m_2=some r) :
  FnM Tryz.prog 52 [(vL Rect.enc l_1),(vL Rect.enc m_2)] [] (vL Rect.enc r) []:=by
 refine FnM.of_wH ⟨Tryz.prog,88,[],[]⟩ rfl Tryz.func52 rfl rfl (lb_ rfl) (by kernel_rfl) ?_
 unfold lS at hF
 refine aj (aa .nil (af (aj (aa .nil (af (au (aj (aa (vL Rect.enc l_1) (aa (vL Rect.enc m_2) (dW (([l_1,m_2]:List (List Rect)).map (eL Rect.enc)) Nq ez161 rfl rfl rfl rfl rfl wz ?_))))))))))
 obtain ⟨r_3,hr_4,hF⟩:=bind_some hF
 refine aC (l8 hr_4) rfl hb78 rfl rfl rfl rfl wz (bI zI rfl wz (aa (vI 0) (af (lJ (λn_11 => ?_)))))
 obtain ⟨o_16,hj_17,hF⟩:=bind_some hF
 obtain ⟨hn_9,hj_17⟩:=aX hj_17
 refine fV (σ:=(List Int)) (N:=Nm) (λp=>(λ(s_10:List Int) (n_13:Nm)=>([(0,(vL Rect.enc l_1)),(1,(vL Rect.enc m_2)),(5,(gV n_13 1 s_10))]:SL_)) p.1 p.2) (λp=>(λ(s_10:List Int) (n_13:Nm)=>([(n_13,gB 1 eI s_10)]:Hp)) p.1 p.2) (λ(k_5:Nat)=>(λp=>(λ(s_10:List Int) (n_13:Nm)=>([(0,(vL Rect.enc l_1)),(1,(vL Rect.enc m_2)),(5,(gV n_13 1 s_10)),(19,(vL Rect.enc r_3)),(20,(vI (r_3.length:Int))),(21,(vI (k_5:Int)))]:SL_)) p.1 p.2)) (λk x s=>lq k x s) o_16 r_3 (([]:List Int),n_11) hj_17 rfl (aL rfl) ?_ ?_
 ·rintro ⟨k_5,l_6,s_10,n_13⟩ ⟨hL_15,hD_8⟩
  dsimp only at hL_15 hD_8
  cases l_6 with
  | nil =>
   obtain rfl:=ae hL_15
   refine aj (aa (vB (decide ((k_5:Int)<(r_3.length:Int)))) (af ?_))
   refine au (aA rfl (drop_nil hD_8) (bg ?_))
   exact aZ (s_10,n_13) rfl rfl (aL rfl)
  | cons x_7 l_6 =>
   obtain ⟨c_,hc_14,hL_15⟩:=bind_some hL_15
   refine aj (aa (vB (decide ((k_5:Int)<(r_3.length:Int)))) (af ?_))
   refine au (aB rfl (bz hD_8) (ax ?_))
   unfold lq at hc_14
   refine au (aO (aj (cZ FV rfl rfl (bH hD_8) rfl wz (bC vk Gm rfl (.d (.agg (Rect.enc x_7))) rfl wz (dE 0 (.inl rfl) z68 rfl wz (λn_18=>fo 0 il ft 1 vk rfl rfl (Rect.v x_7) rfl wz (af (av (aa (gV n_13 1 s_10) (aI vC rfl 1 rfl wz (aG 0 1 il ft sz3 ag3 rfl rfl (vI x_7.Y) rfl wz (aI vC rfl 1 rfl wz (aG 0 1 il ft sz3 ag3 rfl rfl (vI x_7.Y) rfl wz (aI BQ rfl 3 rfl wz (aG 0 1 il ft sz3 ag3 rfl rfl (vI x_7.H) rfl wz (aa (vI (w64 (x_7.Y+x_7.H))) (dW (([x_7.Y,(w64 (x_7.Y+x_7.H))]:List Int).map eI) iQ wX rfl rfl rfl rfl rfl wz ?_)))))))))))))))))
   obtain ⟨a_19,hz_20,hc_14⟩:=bind_some hc_14
   refine jV 0 il ft (i:=0) Jh Jh sz3 z3 rfl (by decide) by3 (by decide) (λ_=>rfl) rfl rfl rfl hz_20 wz (λn_21=>aa (gV n_21 1 a_19) (af (av (eY (bD hD_8 hn_9) wz rfl (aa (vI ((k_5+1:Nat):Int)) (af ?_))))))
   obtain rfl:=ae hc_14
   exact aY (k_5+1,l_6,a_19,n_21) ⟨hL_15,aV hD_8⟩ (ls_ _) rfl (aL rfl)
 ·rintro ⟨s_10,n_13⟩ ho_ sl_ H_ hp_ hq_
  subst ho_
  refine aQ _ hp_ hq_ (aj (aa (gV n_13 1 s_10) ?_))
  obtain ⟨r_22,hr_23,hF⟩:=bind_some hF
  obtain ⟨_,hs_24,hF⟩:=bind_some hF
  replace hs_24:=ze hs_24
  refine wI 0 [] 0 0 il ft (qO hr_23) rfl hb79 rfl rfl rfl (by kernel_rfl) rfl (.inl rfl) rfl (by kernel_rfl) (by kernel_rfl) (by kernel_rfl) (by kernel_rfl) rfl (by decide) (by kernel_rfl) yY (Ho hs_24) wz ([(n_13,gB 1 eI r_22)]:Hp) (by kernel_rfl) (lm (v':=(gV n_13 1 r_22)) 36 rfl (rG hs_24.symm) (lm (v':=(gV n_13 1 r_22)) 5 rfl (rG hs_24.symm) (af (aj (aa (gV n_13 1 r_22) ?_)))))
  obtain ⟨r_25,hr_26,hF⟩:=bind_some hF
  refine wI 0 [] 0 0 il ft (pz hr_26) rfl hb80 rfl rfl rfl (by kernel_rfl) rfl (.inl rfl) rfl (by kernel_rfl) (by kernel_rfl) (by kernel_rfl) (by kernel_rfl) rfl (by decide) (by kernel_rfl) Bt (λ_=>rfl) wz ([(n_13,none)]:Hp) (by kernel_rfl) (aa (vL eI r_25) (af (aj (aa .nil (af (aj (aa .nil (af (aj (aa (vI 0) (af (au (aj (aa (vL eI r_25) (bI pV rfl wz (aa (vI 0) (af (KE Run.enc 9 rfl (lJ (λn_33 => ?_))))))))))))))))))))
  obtain ⟨o_38,hj_39,hF⟩:=bind_some hF
  obtain ⟨hn_31,hj_39⟩:=aX hj_39
  refine fV (σ:=(List Rect)×(List Run)×Int) (N:=Nm) (λp=>(λ(s_32:(List Rect)×(List Run)×Int) (n_35:Nm)=>([(8,(gV n_35 4 s_32.1))]:SL_)) p.1 p.2) (λp=>(λ(s_32:(List Rect)×(List Run)×Int) (n_35:Nm)=>([(n_13,none),(n_35,gB 4 Rect.enc s_32.1)]:Hp)) p.1 p.2) (λ(k_27:Nat)=>(λp=>(λ(s_32:(List Rect)×(List Run)×Int) (n_35:Nm)=>([(0,(vL Rect.enc l_1)),(1,(vL Rect.enc m_2)),(5,(vL eI r_25)),(8,(gV n_35 4 s_32.1)),(9,(vL Run.enc s_32.2.1)),(10,(vI s_32.2.2)),(40,(vL eI r_25)),(41,(vI (r_25.length:Int))),(42,(vI (k_27:Int)))]:SL_)) p.1 p.2)) (λk x s=>jA r_25 l_1 m_2 k x s) o_38 r_25 ((([]:List Rect),([]:List Run),0),n_33) hj_39 rfl (aL rfl) ?_ ?_
  ·rintro ⟨k_27,l_28,s_32,n_35⟩ ⟨hL_37,hD_30⟩
   dsimp only at hL_37 hD_30
   cases l_28 with
   | nil =>
    obtain rfl:=ae hL_37
    refine aj (aa (vB (decide ((k_27:Int)<(r_25.length:Int)))) (af ?_))
    refine au (aA rfl (drop_nil hD_30) (bg ?_))
    exact aZ (s_32,n_35) rfl rfl (aL rfl)
   | cons x_29 l_28 =>
    obtain ⟨c_,hc_36,hL_37⟩:=bind_some hL_37
    refine aj (aa (vB (decide ((k_27:Int)<(r_25.length:Int)))) (af ?_))
    refine au (aB rfl (bz hD_30) (ax ?_))
    unfold jA at hc_36
    refine au (aO (aj (aa (vI (k_27:Int)) (cZ iQ rfl rfl (bH hD_30) rfl wz (bC sz3 ag3 rfl (vI x_29) rfl wz (aa (vI (k_27:Int)) (aa (vI x_29) (af (aj (aa .nil (af (au (aj (aa (vI (k_27:Int)) (aa (vI (w64 ((k_27:Int)+1))) (aa (vL eI r_25) (bI pV rfl wz (aa (vB (decide ((w64 ((k_27:Int)+1))<(r_25.length:Int)))) (af (KE Run.enc 13 rfl ?_))))))))))))))))))))
    obtain ⟨v_42,h_43,hc_36⟩:=bind_some hc_36
    refine aR [(0,(vL Rect.enc l_1)),(1,(vL Rect.enc m_2)),(5,(vL eI r_25)),(8,(gV n_35 4 s_32.1)),(9,(vL Run.enc s_32.2.1)),(10,(vI s_32.2.2)),(12,(vI x_29)),(13,(vL Run.enc v_42)),(40,(vL eI r_25)),(41,(vI (r_25.length:Int))),(42,(vI (k_27:Int)))] [(n_13,none),(n_35,gB 4 Rect.enc s_32.1)] ?_ ?_
    ·rcases ak h_43 with⟨hc_44,h_43⟩|⟨hc_44,h_43⟩
     ·refine aB rfl hc_44 (av (aa (vL Rect.enc l_1) (aa (vI x_29) ?_)))
      obtain ⟨r_45,hr_46,h_43⟩:=bind_some h_43
      refine aC (vJ hr_46) rfl hb82 rfl rfl rfl rfl wz (aa (vL Rect.enc m_2) (aa (vI x_29) ?_))
      obtain ⟨r_47,hr_48,h_43⟩:=bind_some h_43
      refine aC (vJ hr_48) rfl hb82 rfl rfl rfl rfl wz ?_
      obtain ⟨r_49,hr_50,h_43⟩:=bind_some h_43
      refine aC (Cy hr_50) rfl hb81 rfl rfl rfl rfl wz (aa (vL Run.enc r_49) (af ?_))
      obtain rfl:=ae h_43
      exact cu
     ·refine aA rfl hc_44 (ax ?_)
      obtain rfl:=ae h_43
      exact cu
    ·rintro ⟨⟩ _ sl_ H_ hp_ hq_
     refine aQ _ hp_ hq_ (au (aj (aa (vL Run.enc s_32.2.1) (aa (vL Run.enc v_42) ?_))))
     obtain ⟨r_51,hr_52,hc_36⟩:=bind_some hc_36
     refine aC (kW hr_52) rfl hb83 rfl rfl rfl rfl wz (af ?_)
     rcases ak hc_36 with⟨hc_53,hc_36⟩|⟨hc_53,hc_36⟩
     ·refine aB rfl hc_53 (bg (av (eY (bD hD_30 hn_31) wz rfl (aa (vI ((k_27+1:Nat):Int)) (af ?_)))))
      obtain rfl:=ae hc_36
      exact aY (k_27+1,l_28,(s_32.1,s_32.2.1,s_32.2.2),n_35) ⟨hL_37,aV hD_30⟩ (ls_ _) rfl (aL rfl)
     ·refine aA rfl hc_53 (ax (au (aj (aa (vL Run.enc s_32.2.1) (bI xB rfl wz (aa (vI 0) (af ?_)))))))
      obtain ⟨o_64,hj_65,hc_36⟩:=bind_some hc_36
      obtain ⟨hn_58,hj_65⟩:=aX hj_65
      refine fV (σ:=(List Rect)) (N:=Nm) (λp=>(λ(s_59:List Rect) (n_61:Nm)=>([(0,(vL Rect.enc l_1)),(1,(vL Rect.enc m_2)),(5,(vL eI r_25)),(8,(gV n_61 4 s_59)),(12,(vI x_29)),(13,(vL Run.enc v_42)),(40,(vL eI r_25)),(41,(vI (r_25.length:Int))),(42,(vI (k_27:Int)))]:SL_)) p.1 p.2) (λp=>(λ(s_59:List Rect) (n_61:Nm)=>([(n_13,none),(n_61,gB 4 Rect.enc s_59)]:Hp)) p.1 p.2) (λ(k_54:Nat)=>(λp=>(λ(s_59:List Rect) (n_61:Nm)=>([(0,(vL Rect.enc l_1)),(1,(vL Rect.enc m_2)),(5,(vL eI r_25)),(8,(gV n_61 4 s_59)),(10,(vI s_32.2.2)),(12,(vI x_29)),(13,(vL Run.enc v_42)),(40,(vL eI r_25)),(41,(vI (r_25.length:Int))),(42,(vI (k_27:Int))),(62,(vL Run.enc s_32.2.1)),(63,(vI (s_32.2.1.length:Int))),(64,(vI (k_54:Int)))]:SL_)) p.1 p.2)) (λk x s=>lg s_32 x_29 k x s) o_64 s_32.2.1 (s_32.1,n_35) hj_65 rfl (aL rfl) ?_ ?_
      ·rintro ⟨k_54,l_55,s_59,n_61⟩ ⟨hL_63,hD_57⟩
       dsimp only at hL_63 hD_57
       cases l_55 with
       | nil =>
        obtain rfl:=ae hL_63
        refine aj (aa (vB (decide ((k_54:Int)<(s_32.2.1.length:Int)))) (af ?_))
        refine au (aA rfl (drop_nil hD_57) (bg ?_))
        exact aZ (s_59,n_61) rfl rfl (aL rfl)
       | cons x_56 l_55 =>
        obtain ⟨c_,hc_62,hL_63⟩:=bind_some hL_63
        refine aj (aa (vB (decide ((k_54:Int)<(s_32.2.1.length:Int)))) (af ?_))
        refine au (aB rfl (bz hD_57) (ax ?_))
        unfold lg at hc_62
        refine au (aO (aj (cZ kC rfl rfl (bH hD_57) rfl wz (bC mG vY rfl (.d (.agg (Run.enc x_56))) rfl wz (dE 0 (.inl rfl) z139 rfl wz (λn_66=>fo 0 il ft 2 mG rfl rfl [(vI x_56.f_from),(vI x_56.f_to)] rfl wz (af (av (aa (gV n_61 4 s_59) (aI kr rfl 0 rfl wz (aG 0 2 il ft sz3 ag3 rfl rfl (vI x_56.f_from) rfl wz (aa (vI s_32.2.2) (aI p8 rfl 1 rfl wz (aG 0 2 il ft sz3 ag3 rfl rfl (vI x_56.f_to) rfl wz (aI kr rfl 0 rfl wz (aG 0 2 il ft sz3 ag3 rfl rfl (vI x_56.f_from) rfl wz (aa (vI (w64 (x_56.f_to-x_56.f_from))) (aa (vI x_29) (aa (vI s_32.2.2) (aa (vI (w64 (x_29-s_32.2.2))) (aJ (.d (.agg (Rect.enc (⟨x_56.f_from,s_32.2.2,(w64 (x_56.f_to-x_56.f_from)),(w64 (x_29-s_32.2.2))⟩:Rect)))) wz (by kernel_rfl) (dW (([(⟨x_56.f_from,s_32.2.2,(w64 (x_56.f_to-x_56.f_from)),(w64 (x_29-s_32.2.2))⟩:Rect)]:List Rect).map Rect.enc) FV ez69 rfl rfl rfl rfl rfl wz ?_))))))))))))))))))))))
        obtain ⟨a_67,hz_68,hc_62⟩:=bind_some hc_62
        refine jV 0 il ft (i:=1) II II vk z68 rfl (by decide) by68 (by decide) (λ_=>rfl) rfl rfl rfl hz_68 wz (λn_69=>aa (gV n_69 4 a_67) (af (av (eY (bD hD_57 hn_58) wz rfl (aa (vI ((k_54+1:Nat):Int)) (af ?_))))))
        obtain rfl:=ae hc_62
        exact aY (k_54+1,l_55,a_67,n_69) ⟨hL_63,aV hD_57⟩ (ls_ _) rfl (aL rfl)
      ·rintro ⟨s_59,n_61⟩ ho_ sl_ H_ hp_ hq_
       subst ho_
       refine aQ _ hp_ hq_ (av (aa (vL Run.enc v_42) (aa (vI x_29) (aa (vL Run.enc v_42) (aa (vI x_29) (af (av (eY (bD hD_30 hn_31) wz rfl (aa (vI ((k_27+1:Nat):Int)) (af ?_))))))))))
       obtain rfl:=ae hc_36
       exact aY (k_27+1,l_28,(s_59,v_42,x_29),n_61) ⟨hL_37,aV hD_30⟩ (ls_ _) rfl (aL rfl)
  ·rintro ⟨s_32,n_35⟩ ho_ sl_ H_ hp_ hq_
   subst ho_
   refine aQ _ hp_ hq_ (aj (aa (gV n_35 4 s_32.1) (aa (gV n_35 4 s_32.1) (af (gH 1 rfl (fO 4 1 rfl rfl (fO 8 1 rfl rfl (fO 87 1 rfl rfl ?_))))))))
   obtain rfl:=ae hF
   exact ay (aK [(vL Rect.enc s_32.1)] ⟨rfl,trivial⟩)
theorem CU {l_1:(List Rect)} {r:Int} (hF:qW l_1=some r) :
  FnM Tryz.prog 51 [(vL Rect.enc l_1)] [] (vI r) []:=by
 refine FnM.of_wH ⟨Tryz.prog,21,[],[]⟩ rfl Tryz.func51 rfl rfl (lb_ rfl) (by kernel_rfl) ?_
 unfold qW at hF
 refine aj (aa (vI 0) (af (aj (aa (vI 0) (af (au (aj (aa (vL Rect.enc l_1) (bI zI rfl wz (aa (vI 0) (af ?_)))))))))))
 obtain ⟨o_10,hj_11,hF⟩:=bind_some hF
 obtain ⟨hn_6,hj_11⟩:=aX hj_11
 refine di (λ(s_7:Int)=>[(3,(vI s_7))]) (λ(s_7:Int)=>[]) (λ(k_2:Nat)=>(λ(s_7:Int)=>[(3,(vI s_7)),(6,(vL Rect.enc l_1)),(7,(vI (l_1.length:Int))),(8,(vI (k_2:Int)))])) (λk x s=>qC k x s) o_10 l_1 0 hj_11 rfl (aL rfl) ?_ ?_
 ·rintro ⟨k_2,l_3,s_7⟩ ⟨hL_9,hD_5⟩
  dsimp only at hL_9 hD_5
  cases l_3 with
  | nil =>
   obtain rfl:=ae hL_9
   refine aj (aa (vB (decide ((k_2:Int)<(l_1.length:Int)))) (af ?_))
   refine au (aA rfl (drop_nil hD_5) (bg ?_))
   exact aZ (s_7) rfl rfl (aL rfl)
  | cons x_4 l_3 =>
   obtain ⟨c_,hc_8,hL_9⟩:=bind_some hL_9
   refine aj (aa (vB (decide ((k_2:Int)<(l_1.length:Int)))) (af ?_))
   refine au (aB rfl (bz hD_5) (ax ?_))
   unfold qC at hc_8
   refine au (aO (aj (cZ FV rfl rfl (bH hD_5) rfl wz (bC vk Gm rfl (.d (.agg (Rect.enc x_4))) rfl wz (dE 0 (.inl rfl) z68 rfl wz (λn_12=>fo 0 il ft 0 vk rfl rfl (Rect.v x_4) rfl wz (af (av (aa (vI s_7) (aI Gj rfl 2 rfl wz (aG 0 0 il ft sz3 ag3 rfl rfl (vI x_4.W) rfl wz (aI BQ rfl 3 rfl wz (aG 0 0 il ft sz3 ag3 rfl rfl (vI x_4.H) rfl wz (aa (vI (w64 (x_4.W*x_4.H))) (aa (vI (w64 (s_7+(w64 (x_4.W*x_4.H))))) (aa (vI (w64 (s_7+(w64 (x_4.W*x_4.H))))) (af (av (eY (bD hD_5 hn_6) wz rfl (aa (vI ((k_2+1:Nat):Int)) (af ?_)))))))))))))))))))))
   obtain rfl:=ae hc_8
   exact aY (k_2+1,l_3,(w64 (s_7+(w64 (x_4.W*x_4.H))))) ⟨hL_9,aV hD_5⟩ (ls_ _) rfl (aL rfl)
 ·rintro s_7 ho_ sl_ H_ hp_ hq_
  subst ho_
  refine aQ _ hp_ hq_ (aj (aa (vI s_7) (aa (vI s_7) (af ?_))))
  obtain rfl:=ae hF
  exact ay (aK [(vI s_7)] ⟨rfl,trivial⟩)
theorem CJ {l_1:(List Rect)} {r:Int×Int} (hF:oH l_1=some r) :
  FnM Tryz.prog 28 [(vL Rect.enc l_1)] [] (.tup [(vI r.1),(vI r.2)]) []:=by
 refine FnM.of_wH ⟨Tryz.prog,13,[],[]⟩ rfl Tryz.func28 rfl rfl (lb_ rfl) (by kernel_rfl) ?_
 unfold oH at hF
 refine aj (aa (vI 0) (aa (vI 0) (af (au (aj (aa (vL Rect.enc l_1) ?_))))))
 obtain ⟨r_2,hr_3,hF⟩:=bind_some hF
 refine aC (vU hr_3) rfl hb50 rfl rfl rfl rfl wz (aa (vI r_2) (af (aj (aa (vI r_2) (aa (vB (r_2 != 0)) (af ?_))))))
 rcases ak hF with⟨hc_4,hF⟩|⟨hc_4,hF⟩
 ·refine aB rfl hc_4 (aj (aa (vI r_2) (aa (vI 0) (aa (vI r_2) (af ?_)))))
  obtain rfl:=ae hF
  exact ay (aK [(vI 0),(vI r_2)] ⟨rfl,⟨rfl,trivial⟩⟩)
 ·refine aA rfl hc_4 (ax (aj (aa (vL Rect.enc l_1) ?_)))
  obtain ⟨r_5,hr_6,hF⟩:=bind_some hF
  refine aC (zR hr_6) rfl hb52 rfl rfl rfl rfl wz ?_
  obtain ⟨r_7,hr_8,hF⟩:=bind_some hF
  refine aC (CU hr_8) rfl hb51 rfl rfl rfl rfl wz (aa (vI r_7) (aa (vI 0) (af ?_)))
  obtain rfl:=ae hF
  exact ay (aK [(vI r_7),(vI 0)] ⟨rfl,⟨rfl,trivial⟩⟩)
theorem rP {wv_1:Window} {r:Int} (hF:iU wv_1=some r) :
  FnM Tryz.prog 54 [(.d (.agg (Window.enc wv_1)))] [] (vI r) []:=by
 refine FnM.of_wH ⟨Tryz.prog,19,[],[]⟩ rfl Tryz.func54 rfl rfl (lb_ rfl) (by kernel_rfl) ?_
 unfold iU at hF
 refine aj (ik 0 (.inl rfl) [(vI wv_1.From),(vI wv_1.To)] rfl rfl wz (λn_2=>aa (vI 0) (af (au (au ?_)))))
 obtain ⟨v_3,h_4,hF⟩:=bind_some hF
 refine aR [(1,(.ref n_2 0 0)),(12,(vB v_3))] [(n_2,some (.cells 2 [(vI wv_1.From),(vI wv_1.To)]))] ?_ ?_
 ·refine av (aI nJ rfl 0 rfl wz (aG 0 0 il ft sz3 ag3 rfl rfl (vI wv_1.From) rfl wz (aI nE rfl 1 rfl wz (aG 0 0 il ft sz3 ag3 rfl rfl (vI wv_1.To) rfl wz ?_))))
  obtain ⟨r_5,hr_6,h_4⟩:=bind_some h_4
  refine aC (bn hr_6) rfl qN rfl rfl rfl rfl wz ?_
  rcases ak h_4 with⟨hc_7,h_4⟩|⟨hc_7,h_4⟩
  ·refine aD rfl hc_7 wz (ah (ah (ah (aa (vB true) (af ?_)))))
   obtain rfl:=ae h_4
   exact cu
  ·refine aD rfl hc_7 wz (aI nE rfl 1 rfl wa (aG 0 0 il ft sz3 ag3 rfl rfl (vI wv_1.To) rfl wa (aJ (vB (decide (wv_1.To>345686400000))) wa rfl (aa (vB (decide (wv_1.To>345686400000))) (af ?_)))))
   obtain rfl:=ae h_4
   exact cu
 ·rintro ⟨⟩ _ sl_ H_ hp_ hq_
  refine aQ _ hp_ hq_ ?_
  rcases ak hF with⟨hc_8,hF⟩|⟨hc_8,hF⟩
  ·refine aB rfl hc_8 (aj (aa (vI 1) (af ?_)))
   obtain rfl:=ae hF
   exact ay (aK [(vI 1)] ⟨rfl,trivial⟩)
  ·refine aA rfl hc_8 (ax (au (aj (aI nE rfl 1 rfl wz (aG 0 0 il ft sz3 ag3 rfl rfl (vI wv_1.To) rfl wz (aI nJ rfl 0 rfl wz (aG 0 0 il ft sz3 ag3 rfl rfl (vI wv_1.From) rfl wz (aa (vI (w64 (wv_1.To-wv_1.From))) (aa (vB (decide ((w64 (wv_1.To-wv_1.From))>34560000000))) (af ?_))))))))))
   rcases ak hF with⟨hc_9,hF⟩|⟨hc_9,hF⟩
   ·refine aB rfl hc_9 (aj (aa (vI 2) (af ?_)))
    obtain rfl:=ae hF
    exact ay (aK [(vI 2)] ⟨rfl,trivial⟩)
   ·refine aA rfl hc_9 (ax (aj (aa (vI 0) (af ?_))))
    obtain rfl:=ae hF
    exact ay (aK [(vI 0)] ⟨rfl,trivial⟩)
theorem kX {x_1:Int} {r:Bool} (hF:cmp_isNaN_int x_1=some r) :
  FnM Tryz.prog 154 [(vI x_1)] [] (vB r) []:=by
 refine FnM.of_wH ⟨Tryz.prog,6,[],[]⟩ rfl Tryz.func154 rfl rfl (lb_ rfl) (by kernel_rfl) ?_
 unfold cmp_isNaN_int at hF
 refine aj (aa (vB false) (af (aj (aa (vI x_1) (aa (vI x_1) (aa (vB (x_1 != x_1)) (aa (vB (x_1 != x_1)) (af ?_))))))))
 obtain rfl:=ae hF
 exact ay (aK [(vB (x_1 != x_1))] ⟨rfl,trivial⟩)
theorem A8 {x_1:Int} {y_2:Int} {r:Bool} (hF:cmp_Less_int x_1 y_2=some r) :
  FnM Tryz.prog 130 [(vI x_1),(vI y_2)] [] (vB r) []:=by
 refine FnM.of_wH ⟨Tryz.prog,17,[],[]⟩ rfl Tryz.func130 rfl rfl (lb_ rfl) (by kernel_rfl) ?_
 unfold cmp_Less_int at hF
 refine aj (aa (vB false) (af (au ?_)))
 obtain ⟨v_3,h_4,hF⟩:=bind_some hF
 refine aR [(4,(vB v_3))] [] ?_ ?_
 ·refine av (aa (vI x_1) ?_)
  obtain ⟨r_5,hr_6,h_4⟩:=bind_some h_4
  refine aC (kX hr_6) rfl KC rfl rfl rfl rfl wz ?_
  rcases ak h_4 with⟨hc_7,h_4⟩|⟨hc_7,h_4⟩
  ·refine aD rfl hc_7 wz (aJ (vI y_2) wa rfl ?_)
   obtain ⟨r_8,hr_9,h_4⟩:=bind_some h_4
   refine aC (kX hr_9) rfl KC rfl rfl rfl rfl wa (aJ (vB (!r_8)) wa rfl (aa (vB (!r_8)) ?_))
   rcases ak h_4 with⟨hc_10,h_4⟩|⟨hc_10,h_4⟩
   ·refine aD rfl hc_10 wz (ah (ah (ah (aa (vB true) (aa (vB true) (af ?_))))))
    obtain rfl:=ae h_4
    exact cu
   ·refine aD rfl hc_10 wz (aJ (vI x_1) wa rfl (aJ (vI y_2) wa rfl (aJ (vB (decide (x_1<y_2))) wa rfl (aa (vB (decide (x_1<y_2))) (aa (vB (decide (x_1<y_2))) (af ?_))))))
    obtain rfl:=ae h_4
    exact cu
  ·refine aD rfl hc_7 wz (ah (ah (ah (aa (vB false) (aa (vB false) (aJ (vI x_1) wa rfl (aJ (vI y_2) wa rfl (aJ (vB (decide (x_1<y_2))) wa rfl (aa (vB (decide (x_1<y_2))) (aa (vB (decide (x_1<y_2))) (af ?_)))))))))))
   obtain rfl:=ae h_4
   exact cu
 ·rintro ⟨⟩ _ sl_ H_ hp_ hq_
  refine aQ _ hp_ hq_ ?_
  obtain rfl:=ae hF
  exact ay (aK [(vB v_3)] ⟨rfl,trivial⟩)
theorem pG {x_1:Int} {r:Bool} (hF:iy x_1=some r) :
  FnM Tryz.prog 136 [(vI x_1)] [] (vB r) []:=by
 refine FnM.of_wH ⟨Tryz.prog,6,[],[]⟩ rfl Tryz.func136 rfl rfl (lb_ rfl) (by kernel_rfl) ?_
 unfold iy at hF
 refine aj (aa (vB false) (af (aj (aa (vI x_1) (aa (vI x_1) (aa (vB (x_1 != x_1)) (aa (vB (x_1 != x_1)) (af ?_))))))))
 obtain rfl:=ae hF
 exact ay (aK [(vB (x_1 != x_1))] ⟨rfl,trivial⟩)
theorem nA {x_1:(List Int)} {target_2:Int} {r:Int×Bool} (hF:dP x_1 target_2=some r) :
  FnM Tryz.prog 111 [(vL eI x_1),(vI target_2)] [] (.tup [(vI r.1),(vB r.2)]) []:=by
 refine FnM.of_wH ⟨Tryz.prog,54,[],[]⟩ rfl Tryz.func111 rfl rfl (lb_ rfl) (by kernel_rfl) ?_
 unfold dP at hF
 refine aj (aa (vI 0) (aa (vB false) (af (aj (aa (vL eI x_1) (bI pV rfl wz (aa (vI (x_1.length:Int)) (af (aj (aa (vI (x_1.length:Int)) (aa (vI 0) (aa (vI (x_1.length:Int)) (af (au ?_))))))))))))))
 obtain ⟨o_11,hj_12,hF⟩:=bind_some hF
 obtain ⟨nq_34,hj_12⟩:=gu hj_12
 refine jB (λ(s_8:Int×Int)=>[(0,(vL eI x_1)),(1,(vI target_2)),(6,(vI (x_1.length:Int))),(7,(vI s_8.1))]) (λ(s_8:Int×Int)=>[]) (λ(k_3:Nat)=>(λ(s_8:Int×Int)=>[(0,(vL eI x_1)),(1,(vI target_2)),(6,(vI (x_1.length:Int))),(7,(vI s_8.1)),(8,(vI s_8.2))])) (λs=>eB x_1 target_2 s) o_11 nq_34 (0,(x_1.length:Int)) hj_12 rfl (aL rfl) ?_ ?_
 ·rintro ⟨k_3,s_8⟩ hL_10
  dsimp only at hL_10
  cases k_3 with
  | zero=>cases hL_10
  | succ k_3 =>
   obtain ⟨c_,hc_9,hL_10⟩:=bind_some hL_10
   unfold eB at hc_9
   refine au (aj (aa (vI s_8.1) (aa (vI s_8.2) (aa (vB (decide (s_8.1<s_8.2))) (af ?_)))))
   rcases ak hc_9 with⟨hc_13,hc_9⟩|⟨hc_13,hc_9⟩
   ·refine aB rfl hc_13 (ax (aO (aj (aa (vI s_8.1) (aa (vI s_8.2) (aa (vI (w64 (s_8.1+s_8.2))) (x9 un3 MN rfl wz ?_)))))))
    obtain ⟨q_14,hz_15,hc_9⟩:=bind_some hc_9
    refine Kh rfl rfl hz_15 wz (x9 MN un3 rfl wz (aa (vI (w64 q_14)) (af (aj (aa (vL eI x_1) (aa (vI (w64 q_14)) ?_))))))
    obtain ⟨y_16,hy_17,hc_9⟩:=bind_some hc_9
    refine cZ iQ rfl rfl hy_17 rfl wz (bC sz3 ag3 rfl (vI y_16) rfl wz (aa (vI target_2) ?_))
    obtain ⟨r_18,hr_19,hc_9⟩:=bind_some hc_9
    refine aC (A8 hr_19) rfl hb130 rfl rfl rfl rfl wz (af ?_)
    rcases ak hc_9 with⟨hc_20,hc_9⟩|⟨hc_20,hc_9⟩
    ·refine aB rfl hc_20 (av (aa (vI (w64 q_14)) (aa (vI (w64 ((w64 q_14)+1))) (aa (vI (w64 ((w64 q_14)+1))) (af ?_)))))
     obtain rfl:=ae hc_9
     exact aY (k_3,((w64 ((w64 q_14)+1)),s_8.2)) hL_10 (ls_ _) rfl (aL rfl)
    ·refine aA rfl hc_20 (av (aa (vI (w64 q_14)) (aa (vI (w64 q_14)) (af ?_))))
     obtain rfl:=ae hc_9
     exact aY (k_3,(s_8.1,(w64 q_14))) hL_10 (ls_ _) rfl (aL rfl)
   ·refine aA rfl hc_13 (bg ?_)
    obtain rfl:=ae hc_9
    obtain rfl:=ae hL_10
    exact aZ ((s_8.1,s_8.2)) rfl rfl (aL rfl)
 ·rintro s_8 ho_ sl_ H_ hp_ hq_
  subst ho_
  refine aQ _ hp_ hq_ (au ?_)
  obtain ⟨v_21,h_22,hF⟩:=bind_some hF
  refine aR [(4,(vI s_8.1)),(5,(vB v_21))] [] ?_ ?_
  ·refine av (aa (vI s_8.1) (aa (vI s_8.1) (aa (vI (x_1.length:Int)) (aa (vB (decide (s_8.1<(x_1.length:Int)))) ?_))))
   rcases ak h_22 with⟨hc_23,h_22⟩|⟨hc_23,h_22⟩
   ·refine aD rfl hc_23 wz (aJ (vL eI x_1) wa rfl (aJ (vI s_8.1) wa rfl ?_))
    obtain ⟨y_24,hy_25,h_22⟩:=bind_some h_22
    refine cZ iQ rfl rfl hy_25 rfl wa (bC sz3 ag3 rfl (vI y_24) rfl wa (aJ (vI target_2) wa rfl (aJ (vB (y_24==target_2)) wa rfl ?_)))
    rcases ak h_22 with⟨hc_26,h_22⟩|⟨hc_26,h_22⟩
    ·refine aD rfl hc_26 wa (ah (ah (ah (ah (ah (ah (bG (wn rfl rfl) (bG (wn rfl rfl) (ah (aJ (vB true) wa rfl (aa (vB true) (aa (vI s_8.1) (aa (vB true) (af ?_))))))))))))))
     obtain rfl:=ae h_22
     exact cu
    ·refine aD rfl hc_26 wa (aJ (vL eI x_1) wa rfl (aJ (vI s_8.1) wa rfl ?_))
     obtain ⟨y_27,hy_28,h_22⟩:=bind_some h_22
     refine cZ iQ rfl rfl hy_28 rfl wa (bC sz3 ag3 rfl (vI y_27) rfl wa ?_)
     obtain ⟨r_29,hr_30,h_22⟩:=bind_some h_22
     refine aC (pG hr_30) rfl hb136 rfl rfl rfl rfl wa ?_
     rcases ak h_22 with⟨hc_31,h_22⟩|⟨hc_31,h_22⟩
     ·refine aD rfl hc_31 wa (aJ (vI target_2) wa rfl ?_)
      obtain ⟨r_32,hr_33,h_22⟩:=bind_some h_22
      refine aC (pG hr_33) rfl hb136 rfl rfl rfl rfl wa (aJ (vB r_32) wa rfl (aJ (vB r_32) wa rfl (aa (vB r_32) (aa (vI s_8.1) (aa (vB r_32) (af ?_))))))
      obtain rfl:=ae h_22
      exact cu
     ·refine aD rfl hc_31 wa (ah (ah (aJ (vB false) wa rfl (aJ (vB false) wa rfl (aa (vB false) (aa (vI s_8.1) (aa (vB false) (af ?_))))))))
      obtain rfl:=ae h_22
      exact cu
   ·refine aD rfl hc_23 wz (ah (ah (ah (ah (ah (ah (ah (bG (wn rfl rfl) (bG (wn rfl rfl) (bG (wn rfl rfl) (bG (wn rfl rfl) (bG (wn rfl rfl) (bG (wn rfl rfl) (bG (wn rfl rfl) (bG (wn rfl rfl) (bG (wn rfl rfl) (ah (aa (vB false) (aa (vI s_8.1) (aa (vB false) (af ?_)))))))))))))))))))))
    obtain rfl:=ae h_22
    exact cu
  ·rintro ⟨⟩ _ sl_ H_ hp_ hq_
   refine aQ _ hp_ hq_ ?_
   obtain rfl:=ae hF
   exact ay (aK [(vI s_8.1),(vB v_21)] ⟨rfl,⟨rfl,trivial⟩⟩)
theorem yP {e_1:Entry} {d_2:Int} {r:Bool} (hF:kP e_1 d_2=some r) :
  FnM Tryz.prog 84 [(.d (.agg (Entry.enc e_1))),(vI d_2)] [] (vB r) []:=by
 refine FnM.of_wH ⟨Tryz.prog,41,[],[]⟩ rfl Tryz.func84 rfl rfl (lb_ rfl) (by kernel_rfl) ?_
 unfold kP at hF
 refine aj (ik 0 (.inl rfl) (Entry.v e_1) rfl rfl wz (λn_3=>aa (vB false) (af (au (au ?_)))))
 obtain ⟨v_4,h_5,hF⟩:=bind_some hF
 refine aR [(1,(vI d_2)),(2,(.ref n_3 0 0)),(31,(vB v_4))] [(n_3,some (.cells 13 (Entry.v e_1)))] ?_ ?_
 ·refine bL (aa (vI d_2) (aI xM rfl 3 rfl wz (aG 2 0 (.inr (by kernel_rfl)) (λ_ _ ag=>trivial) sz3 ag3 rfl rfl (vI e_1.First) rfl wz (aI xY rfl 4 rfl wz (aG 4 0 (.inr (by kernel_rfl)) (λ_ _ ag=>⟨.inl ⟨rfl,rfl⟩,trivial⟩) sz3 ag3 rfl rfl (vI e_1.Last) rfl wz ?_)))))
  obtain ⟨r_6,hr_7,h_5⟩:=bind_some h_5
  refine aC (bn hr_7) rfl qN rfl rfl rfl rfl wz ?_
  rcases ak h_5 with⟨hc_8,h_5⟩|⟨hc_8,h_5⟩
  ·refine aD rfl hc_8 wz (ah (ah (ah (ah (ah (ah (ah (ah (aa (vB true) (aa (vB true) (ah (ah (ah (ah (ah (ah (ah (aa (vB true) (af ?_)))))))))))))))))))
   obtain rfl:=ae h_5
   exact cu
  ·refine aD rfl hc_8 wz (aJ (vI d_2) wa rfl (aI xM rfl 3 rfl wa (aG 9 0 (.inr (by kernel_rfl)) (λ_ _ ag=>⟨.inl ⟨rfl,rfl⟩,⟨.inl ⟨rfl,rfl⟩,trivial⟩⟩) sz3 ag3 rfl rfl (vI e_1.First) rfl wa (aJ (vI (w64 (d_2-e_1.First))) wa rfl (aI Fs rfl 5 rfl wa (aG 12 0 (.inr (by kernel_rfl)) (λ_ _ ag=>⟨.inl ⟨rfl,rfl⟩,⟨.inl ⟨rfl,rfl⟩,⟨.inl ⟨rfl,rfl⟩,trivial⟩⟩⟩) sz3 ag3 rfl rfl (vI e_1.Every) rfl wa ?_))))))
   obtain ⟨q_9,hz_10,h_5⟩:=bind_some h_5
   refine Nc rfl rfl hz_10 wa (aJ (vB (q_9 != 0)) wa rfl (aa (vB (q_9 != 0)) ?_))
   rcases ak h_5 with⟨hc_11,h_5⟩|⟨hc_11,h_5⟩
   ·refine aD rfl hc_11 wz (ah (ah (ah (ah (ah (ah (ah (aa (vB true) (af ?_)))))))))
    obtain rfl:=ae h_5
    exact cu
   ·refine aD rfl hc_11 wz (aI FN rfl 6 rfl wa (aG 18 0 (.inr (by kernel_rfl)) (λ_ _ ag=>⟨.inl ⟨rfl,rfl⟩,⟨.inl ⟨rfl,rfl⟩,⟨.inl ⟨rfl,rfl⟩,⟨.inl ⟨rfl,rfl⟩,trivial⟩⟩⟩⟩) sz3 ag3 rfl rfl (vI e_1.Days) rfl wa (aJ (vI d_2) wa rfl (aJ (vI (d_2.tmod 7)) wa rfl ?_))))
    obtain ⟨q_12,hz_13,h_5⟩:=bind_some h_5
    refine h_shl rfl rfl hz_13 wa (aJ (vI (Cf .i64 e_1.Days q_12)) wa rfl (aJ (vB ((Cf .i64 e_1.Days q_12)==0)) wa rfl (aa (vB ((Cf .i64 e_1.Days q_12)==0)) (af ?_))))
    obtain rfl:=ae h_5
    exact cu
 ·rintro ⟨⟩ _ sl_ H_ hp_ hq_
  refine aQ _ hp_ hq_ ?_
  rcases ak hF with⟨hc_14,hF⟩|⟨hc_14,hF⟩
  ·refine aB rfl hc_14 (aj (aa (vB false) (af ?_)))
   obtain rfl:=ae hF
   exact ay (aK [(vB false)] ⟨rfl,trivial⟩)
  ·refine aA rfl hc_14 (ax (aj (aI rO rfl 7 rfl wz (aG 0 0 il ft yu Cb rfl rfl (vL eI e_1.Except) rfl wz (aa (vI d_2) ?_)))))
   obtain ⟨r_15,hr_16,hF⟩:=bind_some hF
   refine aC (nA hr_16) rfl hb111 rfl rfl rfl rfl wz (aa (.tup [(vI r_15.1),(vB r_15.2)]) (aa (vI r_15.1) (aa (vB r_15.2) (aa (vI r_15.1) (aa (vB r_15.2) (af (aj (aa (vB r_15.2) (aa (vB (!r_15.2)) (aa (vB (!r_15.2)) (af ?_)))))))))))
   obtain rfl:=ae hF
   exact ay (aK [(vB (!r_15.2))] ⟨rfl,trivial⟩)
theorem xH {e_1:Entry} {zone_2:Int} {d_3:Int} {r:Window} (hF:lW e_1 zone_2 d_3=some r) :
  FnM Tryz.prog 85 [(.d (.agg (Entry.enc e_1))),(vI zone_2),(vI d_3)] [] (.d (.agg (Window.enc r))) []:=by
 refine FnM.of_wH ⟨Tryz.prog,32,[],[]⟩ rfl Tryz.func85 rfl rfl (lb_ rfl) (by kernel_rfl) ?_
 unfold lW at hF
 refine aj (ik 0 (.inl rfl) (Entry.v e_1) rfl rfl wz (λn_4=>dE 0 (.inl rfl) z74 rfl wz (λn_5=>af (aj (aI Fb rfl 9 rfl wz (aG 0 0 il ft sz3 ag3 rfl rfl (vI e_1.To) rfl wz (aI CL rfl 8 rfl wz (aG 0 0 il ft sz3 ag3 rfl rfl (vI e_1.From) rfl wz (aa (vI (w64 (e_1.To-e_1.From))) (aa (vI (w64 (e_1.To-e_1.From))) (af (au (aj (aa (vI (w64 (e_1.To-e_1.From))) (aa (vB (decide ((w64 (e_1.To-e_1.From))<=0))) (af ?_))))))))))))))))
 obtain ⟨v_6,h_7,hF⟩:=bind_some hF
 refine aR [(1,(vI zone_2)),(2,(vI d_3)),(3,(.ref n_4 0 0)),(6,(.ref n_5 0 0)),(7,(vI v_6))] [(n_4,some (.cells 13 (Entry.v e_1))),(n_5,some (.cells 2 [(vI 0),(vI 0)]))] ?_ ?_
 ·rcases ak h_7 with⟨hc_8,h_7⟩|⟨hc_8,h_7⟩
  ·refine aB rfl hc_8 (av (aa (vI (w64 (e_1.To-e_1.From))) (aa (vI (w64 ((w64 (e_1.To-e_1.From))+1440))) (aa (vI (w64 ((w64 (e_1.To-e_1.From))+1440))) (af ?_)))))
   obtain rfl:=ae h_7
   exact cu
  ·refine aA rfl hc_8 (ax ?_)
   obtain rfl:=ae h_7
   exact cu
 ·rintro ⟨⟩ _ sl_ H_ hp_ hq_
  refine aQ _ hp_ hq_ (aj (aa (vI d_3) (aa (vI (w64 (d_3*1440))) (aI CL rfl 8 rfl wz (aG 0 0 il ft sz3 ag3 rfl rfl (vI e_1.From) rfl wz (aa (vI (w64 ((w64 (d_3*1440))+e_1.From))) (aa (vI zone_2) (aa (vI (w64 ((w64 ((w64 (d_3*1440))+e_1.From))-zone_2))) (aa (vI (w64 ((w64 ((w64 ((w64 (d_3*1440))+e_1.From))-zone_2))*60000))) (aa (vI (w64 ((w64 ((w64 ((w64 (d_3*1440))+e_1.From))-zone_2))*60000))) (af (aj (aa (vI (w64 ((w64 ((w64 ((w64 (d_3*1440))+e_1.From))-zone_2))*60000))) (aa (vI (w64 ((w64 ((w64 ((w64 (d_3*1440))+e_1.From))-zone_2))*60000))) (aa (vI v_6) (aa (vI (w64 (v_6*60000))) (aa (vI (w64 ((w64 ((w64 ((w64 ((w64 (d_3*1440))+e_1.From))-zone_2))*60000))+(w64 (v_6*60000))))) (aJ (.d (.agg (Window.enc (⟨(w64 ((w64 ((w64 ((w64 (d_3*1440))+e_1.From))-zone_2))*60000)),(w64 ((w64 ((w64 ((w64 ((w64 (d_3*1440))+e_1.From))-zone_2))*60000))+(w64 (v_6*60000))))⟩:Window)))) wz (by kernel_rfl) (fo 0 il ft 1 xX rfl rfl [(vI (w64 ((w64 ((w64 ((w64 (d_3*1440))+e_1.From))-zone_2))*60000))),(vI (w64 ((w64 ((w64 ((w64 ((w64 (d_3*1440))+e_1.From))-zone_2))*60000))+(w64 (v_6*60000)))))] rfl wz (af ?_))))))))))))))))))))
  obtain rfl:=ae hF
  exact ay (aK [(.d (.agg (Window.enc (⟨(w64 ((w64 ((w64 ((w64 (d_3*1440))+e_1.From))-zone_2))*60000)),(w64 ((w64 ((w64 ((w64 ((w64 (d_3*1440))+e_1.From))-zone_2))*60000))+(w64 (v_6*60000))))⟩:Window))))] ⟨⟨1,_,_,_,_,_,_,_,rfl,rfl,xX,EZ,rfl⟩,trivial⟩)
theorem Bf {t_1:Window} {wv_2:Window} {r:Window} (hF:uC t_1 wv_2=some r) :
  FnM Tryz.prog 56 [(.d (.agg (Window.enc t_1))),(.d (.agg (Window.enc wv_2)))] [] (.d (.agg (Window.enc r))) []:=by
 refine FnM.of_wH ⟨Tryz.prog,16,[],[]⟩ rfl Tryz.func56 rfl rfl (lb_ rfl) (by kernel_rfl) ?_
 unfold uC at hF
 refine aj (ik 0 (.inl rfl) [(vI t_1.From),(vI t_1.To)] rfl rfl wz (λn_3=>ik 0 (.inl rfl) [(vI wv_2.From),(vI wv_2.To)] rfl rfl wz (λn_4=>dE 0 (.inl rfl) z74 rfl wz (λn_5=>af (aj (aI nJ rfl 0 rfl wz (aG 0 0 il ft sz3 ag3 rfl rfl (vI t_1.From) rfl wz (aI nJ rfl 0 rfl wz (aG 0 1 il ft sz3 ag3 rfl rfl (vI wv_2.From) rfl wz (rU (vI (sw t_1.From wv_2.From)) rfl (.inr rfl) wz (aI nE rfl 1 rfl wz (aG 0 0 il ft sz3 ag3 rfl rfl (vI t_1.To) rfl wz (aI nE rfl 1 rfl wz (aG 0 1 il ft sz3 ag3 rfl rfl (vI wv_2.To) rfl wz (rU (vI (Gg t_1.To wv_2.To)) rfl (.inl rfl) wz (aJ (.d (.agg (Window.enc (⟨(sw t_1.From wv_2.From),(Gg t_1.To wv_2.To)⟩:Window)))) wz (by kernel_rfl) (fo 0 il ft 2 xX rfl rfl [(vI (sw t_1.From wv_2.From)),(vI (Gg t_1.To wv_2.To))] rfl wz (af ?_))))))))))))))))))
 obtain rfl:=ae hF
 exact ay (aK [(.d (.agg (Window.enc (⟨(sw t_1.From wv_2.From),(Gg t_1.To wv_2.To)⟩:Window))))] ⟨⟨2,_,_,_,_,_,_,_,rfl,rfl,xX,EZ,rfl⟩,trivial⟩)
end Go.Proofs.YtigdobmllbakiaaGreatDoor.Law

