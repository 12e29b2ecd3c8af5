/-
 The machine computes these plain functions (written by a program of ours).
-/
import Derived.Test.YtekmkepojbhafaeGreatDoorFacts
import Derived.Test.YtekmkepojbhafaeGreatDoorDefs
import Derived.Test.YtekmkepojbhafaeGreatDoorPf2
import Derived.Test.YtekmkepojbhafaeGreatDoorShelf
open Go Go.Eng Go.Proofs
namespace Go.Proofs.YtekmkepojbhafaeGreatDoor.Law
set_option maxRecDepth 100000
set_option linter.unusedVariables false
set_option maxHeartbeats 1000000
theorem nY {x_1:ByteArray} {r:Bool} (hF:cmp_isNaN_string x_1=some r) :
  FnM Tryz.prog 112 [(vS x_1)] [] (vB r) []:=by
 refine FnM.of_wH ⟨Tryz.prog,6,[],[]⟩ rfl Tryz.func112 rfl rfl (lb_ rfl) (by kernel_rfl) ?_
 unfold cmp_isNaN_string at hF
 refine ai (aa (vB false) (af (ai (aa (vS x_1) (aa (vS x_1) (aa (vB (sNe x_1 x_1)) (aa (vB (sNe x_1 x_1)) (af ?_))))))))
 obtain rfl:=ae hF
 exact ay (aM [(vB (sNe x_1 x_1))] ⟨rfl,trivial⟩)
theorem uW {x_1:ByteArray} {y_2:ByteArray} {r:Bool} (hF:cmp_Less_string x_1 y_2=some r) :
  FnM Tryz.prog 83 [(vS x_1),(vS y_2)] [] (vB r) []:=by
 refine FnM.of_wH ⟨Tryz.prog,17,[],[]⟩ rfl Tryz.func83 rfl rfl (lb_ rfl) (by kernel_rfl) ?_
 unfold cmp_Less_string at hF
 refine ai (aa (vB false) (af (ak ?_)))
 obtain ⟨v_3,h_4,hF⟩:=bind_some hF
 refine aO [(4,(vB v_3))] [] ?_ ?_
 ·refine au (aa (vS x_1) ?_)
  obtain ⟨r_5,hr_6,h_4⟩:=bind_some h_4
  refine aF (nY hr_6) rfl hb112 rfl rfl rfl rfl wz ?_
  rcases aj h_4 with⟨hc_7,h_4⟩|⟨hc_7,h_4⟩
  ·refine aC rfl hc_7 wz (aI (vS y_2) wa rfl ?_)
   obtain ⟨r_8,hr_9,h_4⟩:=bind_some h_4
   refine aF (nY hr_9) rfl hb112 rfl rfl rfl rfl wa (aI (vB (!r_8)) wa rfl (aa (vB (!r_8)) ?_))
   rcases aj h_4 with⟨hc_10,h_4⟩|⟨hc_10,h_4⟩
   ·refine aC rfl hc_10 wz (ah (ah (ah (aa (vB true) (aa (vB true) (af ?_))))))
    obtain rfl:=ae h_4
    exact cu
   ·refine aC rfl hc_10 wz (aI (vS x_1) wa rfl (aI (vS y_2) wa rfl (aI (vB (sLt x_1 y_2)) wa rfl (aa (vB (sLt x_1 y_2)) (aa (vB (sLt x_1 y_2)) (af ?_))))))
    obtain rfl:=ae h_4
    exact cu
  ·refine aC rfl hc_7 wz (ah (ah (ah (aa (vB false) (aa (vB false) (aI (vS x_1) wa rfl (aI (vS y_2) wa rfl (aI (vB (sLt x_1 y_2)) wa rfl (aa (vB (sLt x_1 y_2)) (aa (vB (sLt x_1 y_2)) (af ?_)))))))))))
   obtain rfl:=ae h_4
   exact cu
 ·rintro ⟨⟩ _ sl_ H_ hp_ hq_
  refine aP _ hp_ hq_ ?_
  obtain rfl:=ae hF
  exact ay (aM [(vB v_3)] ⟨rfl,trivial⟩)
theorem jI {data_1:(List ByteArray)} {a_2:Int} {b_3:Int} {r:(List ByteArray)} (hF:bI data_1 a_2 b_3=some r) :
  FnM Tryz.prog 77 [(dV (av 0) 1 data_1),(vI a_2),(vI b_3)] (([]:List Box)++gI 1 eS data_1) (.tup []) (([]:List Box).map some++gT data_1 (gB 1 eS r)):=by
 refine FnM.of_wHv ⟨Tryz.prog,49,[],[]⟩ rfl Tryz.func77 rfl rfl (lb_ rfl) (by kernel_rfl) ?_
 unfold bI at hF
 refine ai (aa (vI a_2) (aa (vI (w64 (a_2+1))) (aa (vI (w64 (a_2+1))) (af ?_))))
 obtain ⟨o_12,hj_13,hF⟩:=bind_some hF
 obtain ⟨nq_50,hj_13⟩:=gD hj_13
 refine jF (λ(s_9:(List ByteArray)×Int)=>[]) (λ(s_9:(List ByteArray)×Int)=>[((av 0),gB 1 eS s_9.1)]) (λ(k_4:Nat)=>(λ(s_9:(List ByteArray)×Int)=>[(0,(dV (av 0) 1 s_9.1)),(1,(vI a_2)),(2,(vI b_3)),(6,(vI s_9.2))])) (λs=>bv b_3 a_2 s) o_12 nq_50 (data_1,(w64 (a_2+1))) hj_13 rfl (aL rfl) ?_ ?_
 ·rintro ⟨k_4,s_9⟩ hL_11
  dsimp only at hL_11
  cases k_4 with
  | zero=>cases hL_11
  | succ k_4 =>
   obtain ⟨c_,hc_10,hL_11⟩:=bind_some hL_11
   unfold bv at hc_10
   refine ak (ai (aa (vI s_9.2) (aa (vI b_3) (aa (vB (decide (s_9.2<b_3))) (af ?_)))))
   rcases aj hc_10 with⟨hc_14,hc_10⟩|⟨hc_14,hc_10⟩
   ·refine aB rfl hc_14 (ax (ak (aN (ai (aa (vI s_9.2) (aa (vI s_9.2) (af ?_)))))))
    obtain ⟨o_23,hj_24,hc_10⟩:=bind_some hc_10
    obtain ⟨nq_49,hj_24⟩:=gD hj_24
    refine jF (λ(s_20:(List ByteArray)×Int)=>[(0,(dV (av 0) 1 s_20.1)),(1,(vI a_2)),(2,(vI b_3)),(6,(vI s_9.2))]) (λ(s_20:(List ByteArray)×Int)=>[((av 0),gB 1 eS s_20.1)]) (λ(k_15:Nat)=>(λ(s_20:(List ByteArray)×Int)=>[(0,(dV (av 0) 1 s_20.1)),(1,(vI a_2)),(2,(vI b_3)),(6,(vI s_9.2)),(7,(vI s_20.2))])) (λs=>bz a_2 s) o_23 nq_49 (s_9.1,s_9.2) hj_24 rfl (aL rfl) ?_ ?_
    ·rintro ⟨k_15,s_20⟩ hL_22
     dsimp only at hL_22
     cases k_15 with
     | zero=>cases hL_22
     | succ k_15 =>
      obtain ⟨c_,hc_21,hL_22⟩:=bind_some hL_22
      unfold bz at hc_21
      refine ak (ak ?_)
      obtain ⟨v_25,h_26,hc_21⟩:=bind_some hc_21
      refine aO [(0,(dV (av 0) 1 s_20.1)),(1,(vI a_2)),(2,(vI b_3)),(6,(vI s_9.2)),(7,(vI s_20.2)),(30,(vB v_25))] [((av 0),gB 1 eS s_20.1)] ?_ ?_
      ·refine fG (aa (vI s_20.2) (aa (vI a_2) (aa (vB (decide (s_20.2>a_2))) ?_)))
       rcases aj h_26 with⟨hc_27,h_26⟩|⟨hc_27,h_26⟩
       ·refine aC rfl hc_27 wz (aI (dV (av 0) 1 s_20.1) wa rfl (aI (vI s_20.2) wa rfl ?_))
        obtain ⟨_,hi_28,h_26⟩:=bind_some h_26
        refine mJ iL rfl rfl (nD hi_28) (ko hi_28) wa ?_
        obtain ⟨e_29,hy_30,h_26⟩:=bind_some h_26
        refine mW 7 0 (.inr (by kernel_rfl)) (λ_ _ ag=>trivial) sz9 ag9 rfl rfl hy_30 (vS e_29) rfl wa (aI (dV (av 0) 1 s_20.1) wa rfl (aI (vI s_20.2) wa rfl (aI (vI (w64 (s_20.2-1))) wa rfl ?_)))
        obtain ⟨_,hi_31,h_26⟩:=bind_some h_26
        refine mJ iL rfl rfl (nD hi_31) (ko hi_31) wa ?_
        obtain ⟨e_32,hy_33,h_26⟩:=bind_some h_26
        refine mW 12 0 (.inr (by kernel_rfl)) (λ_ _ ag=>⟨.inl ⟨rfl,rfl⟩,trivial⟩) sz9 ag9 rfl rfl hy_33 (vS e_32) rfl wa ?_
        obtain ⟨r_34,hr_35,h_26⟩:=bind_some h_26
        refine aF (uW hr_35) rfl hb83 rfl rfl rfl rfl wa (aa (vB r_34) (af ?_))
        obtain rfl:=ae h_26
        exact cu
       ·refine aC rfl hc_27 wz (ah (ah (ah (ah (ah (ah (ah (ah (ah (ah (aa (vB false) (af ?_))))))))))))
        obtain rfl:=ae h_26
        exact cu
      ·rintro ⟨⟩ _ sl_ H_ hp_ hq_
       refine aP _ hp_ hq_ ?_
       rcases aj hc_21 with⟨hc_36,hc_21⟩|⟨hc_36,hc_21⟩
       ·refine aB rfl hc_36 (ax (ak (aN (fG (aa (dV (av 0) 1 s_20.1) (aa (vI s_20.2) (aa (dV (av 0) 1 s_20.1) (aa (vI s_20.2) (aa (vI (w64 (s_20.2-1))) (aa (dV (av 0) 1 s_20.1) (aa (vI s_20.2) (aa (vI (w64 (s_20.2-1))) ?_))))))))))))
        obtain ⟨_,hi_37,hc_21⟩:=bind_some hc_21
        refine mJ iL rfl rfl (nD hi_37) (ko hi_37) wz ?_
        obtain ⟨e_38,hy_39,hc_21⟩:=bind_some hc_21
        refine mW 9 0 (.inr (by kernel_rfl)) (λ_ _ ag=>trivial) sz9 ag9 rfl rfl hy_39 (vS e_38) rfl wz (aa (dV (av 0) 1 s_20.1) (aa (vI s_20.2) ?_))
        obtain ⟨_,hi_40,hc_21⟩:=bind_some hc_21
        refine mJ iL rfl rfl (nD hi_40) (ko hi_40) wz ?_
        obtain ⟨e_41,hy_42,hc_21⟩:=bind_some hc_21
        refine mW 13 0 (.inr (by kernel_rfl)) (λ_ _ ag=>⟨.inl ⟨rfl,rfl⟩,trivial⟩) sz9 ag9 rfl rfl hy_42 (vS e_41) rfl wz ?_
        obtain ⟨_,hi_43,hc_21⟩:=bind_some hc_21
        refine mJ iL rfl rfl (nD hi_43) (ko hi_43) wz ?_
        obtain ⟨e_44,hy_45,hc_21⟩:=bind_some hc_21
        refine l6 15 (.inr (by kernel_rfl)) (λ_ _ ag=>⟨.inr (.inr (by kernel_rfl)),⟨.inr (.inr (by kernel_rfl)),trivial⟩⟩) 0 sz9 rfl rfl hy_45 e_38 rfl wz (dQ (v':=(dV (av 0) 1 (s_20.1.set (0+(s_20.2).toNat) e_38))) 0 rfl (eZ (by simp)) (dQ (v':=(dV (av 0) 1 (s_20.1.set (0+(s_20.2).toNat) e_38))) 33 rfl (eZ (by simp)) (dQ (v':=(dV (av 0) 1 (s_20.1.set (0+(s_20.2).toNat) e_38))) 35 rfl (eZ (by simp)) (dQ (v':=(dV (av 0) 1 (s_20.1.set (0+(s_20.2).toNat) e_38))) 38 rfl (eZ (by simp)) (dQ (v':=(dV (av 0) 1 (s_20.1.set (0+(s_20.2).toNat) e_38))) 43 rfl (eZ (by simp)) ?_)))))
        obtain ⟨_,hi_46,hc_21⟩:=bind_some hc_21
        refine mJ iL rfl rfl (nD hi_46) (ko hi_46) wz ?_
        obtain ⟨e_47,hy_48,hc_21⟩:=bind_some hc_21
        refine l6 17 (.inr (by kernel_rfl)) (λ_ _ ag=>⟨.inr (.inr (by kernel_rfl)),⟨.inr (.inr (by kernel_rfl)),⟨.inr (.inr (by kernel_rfl)),trivial⟩⟩⟩) 0 sz9 rfl rfl hy_48 e_41 rfl wz (dQ (v':=(dV (av 0) 1 ((s_20.1.set (0+(s_20.2).toNat) e_38).set (0+((w64 (s_20.2-1))).toNat) e_41))) 0 rfl (eZ (by simp)) (dQ (v':=(dV (av 0) 1 ((s_20.1.set (0+(s_20.2).toNat) e_38).set (0+((w64 (s_20.2-1))).toNat) e_41))) 33 rfl (eZ (by simp)) (dQ (v':=(dV (av 0) 1 ((s_20.1.set (0+(s_20.2).toNat) e_38).set (0+((w64 (s_20.2-1))).toNat) e_41))) 35 rfl (eZ (by simp)) (dQ (v':=(dV (av 0) 1 ((s_20.1.set (0+(s_20.2).toNat) e_38).set (0+((w64 (s_20.2-1))).toNat) e_41))) 38 rfl (eZ (by simp)) (dQ (v':=(dV (av 0) 1 ((s_20.1.set (0+(s_20.2).toNat) e_38).set (0+((w64 (s_20.2-1))).toNat) e_41))) 43 rfl (eZ (by simp)) (af (au (aa (vI s_20.2) (aa (vI (w64 (s_20.2-1))) (aa (vI (w64 (s_20.2-1))) (af ?_)))))))))))
        obtain rfl:=ae hc_21
        exact bg (k_15,(((s_20.1.set (0+(s_20.2).toNat) e_38).set (0+((w64 (s_20.2-1))).toNat) e_41),(w64 (s_20.2-1)))) hL_22 (ls_ _) rfl (aL rfl)
       ·refine aA rfl hc_36 (bn ?_)
        obtain rfl:=ae hc_21
        obtain rfl:=ae hL_22
        exact aW ((s_20.1,s_20.2)) rfl rfl (aL rfl)
    ·rintro s_20 ho_ sl_ H_ hp_ hq_
     subst ho_
     refine aP _ hp_ hq_ (au (aa (vI s_9.2) (aa (vI (w64 (s_9.2+1))) (aa (vI (w64 (s_9.2+1))) (af ?_)))))
     obtain rfl:=ae hc_10
     exact bg (k_4,(s_20.1,(w64 (s_9.2+1)))) hL_11 (ls_ _) rfl (aL rfl)
   ·refine aA rfl hc_14 (bn ?_)
    obtain rfl:=ae hc_10
    obtain rfl:=ae hL_11
    exact aW ((s_9.1,s_9.2)) rfl rfl (aL rfl)
 ·rintro s_9 ho_ sl_ H_ hp_ hq_
  subst ho_
  show tH _ _ _ _ _ _ _ _
  obtain rfl:=ae hF
  exact yR (H0:=([((av 0),gB 1 eS s_9.1)]:Hp)) (sl':=envS []) hq_ (Aq (bs:=([]:List Box)) (os:=([]:List Box)) (xs:=data_1) (o:=gB 1 eS s_9.1) (.inl rfl) [] trivial rfl rfl rfl rfl rfl (by kernel_rfl) kW rfl)
theorem lG {data_1:(List ByteArray)} {a_2:Int} {b_3:Int} {limit_4:Int} {r:(List ByteArray)} (hF:bX data_1 a_2 b_3 limit_4=some r) :
  FnM Tryz.prog 54 [(dV (av 0) 1 data_1),(vI a_2),(vI b_3),(vI limit_4)] (([]:List Box)++gI 1 eS data_1) (.tup []) (([]:List Box).map some++gT data_1 (gB 1 eS r)):=by
 refine FnM.of_wHv ⟨Tryz.prog,134,[],[]⟩ rfl Tryz.func54 rfl rfl (lb_ rfl) (by kernel_rfl) ?_
 unfold bX at hF
 refine ai (aa (vB true) (af (ai (aa (vB true) (af ?_)))))
 obtain ⟨o_13,hj_14,hF⟩:=bind_some hF
 obtain ⟨nq_20,hj_14⟩:=gD hj_14
 refine jF (λ(s_10:Unit)=>[]) (λ(s_10:Unit)=>[((av 0),gB 1 eS data_1)]) (λ(k_5:Nat)=>(λ(s_10:Unit)=>[(0,(dV (av 0) 1 data_1)),(1,(vI a_2)),(2,(vI b_3)),(3,(vI limit_4)),(8,(vB true)),(9,(vB true))])) (λs=>bQ b_3 a_2 data_1 limit_4 s) o_13 nq_20 () hj_14 rfl (aL rfl) ?_ ?_
 ·rintro ⟨k_5,s_10⟩ hL_12
  dsimp only at hL_12
  cases k_5 with
  | zero=>cases hL_12
  | succ k_5 =>
   obtain ⟨c_,hc_11,hL_12⟩:=bind_some hL_12
   unfold bQ at hc_11
   refine aN (ai (aa (vI b_3) (aa (vI a_2) (aa (vI (w64 (b_3-a_2))) (aa (vI (w64 (b_3-a_2))) (af (ak (ai (aa (vI (w64 (b_3-a_2))) (aa (vB (decide ((w64 (b_3-a_2))<=12))) (af ?_)))))))))))
   rcases aj hc_11 with⟨hc_15,hc_11⟩|⟨hc_15,hc_11⟩
   ·refine aB rfl hc_15 (ai (aa (dV (av 0) 1 data_1) (aa (vI a_2) (aa (vI b_3) ?_))))
    obtain ⟨r_16,hr_17,hc_11⟩:=bind_some hc_11
    obtain ⟨_,hs_18,hc_11⟩:=bind_some hc_11
    replace hs_18:=oK hs_18
    refine ny 0 [] 0 0 il ft (jI hr_17) rfl hb77 rfl rfl rfl (by kernel_rfl) rfl (.inr (.inl rfl)) rfl (by kernel_rfl) (by kernel_rfl) (by kernel_rfl) (by kernel_rfl) rfl (by decide) (by kernel_rfl) kW (uR hs_18) wz ([((av 0),gB 1 eS r_16)]:Hp) (by kernel_rfl) (dQ (v':=(dV (av 0) 1 r_16)) 0 rfl (eZ hs_18.symm) (dQ (v':=(dV (av 0) 1 r_16)) 24 rfl (eZ hs_18.symm) (af ?_)))
    obtain rfl:=ae hc_11
    obtain rfl:=ae hL_12
    obtain rfl:=ae hF
    exact ay (Aq (bs:=([]:List Box)) (os:=([]:List Box)) (xs:=data_1) (o:=gB 1 eS r_16) (.inr rfl) [] trivial rfl rfl rfl rfl rfl (by kernel_rfl) kW rfl)
   ·refine aA rfl hc_15 (ax (ak (ai (aa (vI limit_4) (aa (vB (limit_4==0)) (af ?_))))))
    rcases aj hc_11 with⟨hc_19,hc_11⟩|⟨hc_19,hc_11⟩
    ·refine aB rfl hc_19 (ai (aa (dV (av 0) 1 data_1) (aa (vI a_2) (aa (vI b_3) ?_))))
     cases hc_11
    ·refine aA rfl hc_19 (ax (ak (ai (aa (vB true) (aa (vB false) (af (aA rfl rfl (ax (ai (aa (dV (av 0) 1 data_1) (aa (vI a_2) (aa (vI b_3) ?_))))))))))))
     cases hc_11
 ·rintro s_10 ho_ sl_ H_ hp_ hq_
  subst ho_
  show tH _ _ _ _ _ _ _ _
  obtain rfl:=ae hF
  exact yR (H0:=([((av 0),gB 1 eS data_1)]:Hp)) (sl':=envS []) hq_ (Aq (bs:=([]:List Box)) (os:=([]:List Box)) (xs:=data_1) (o:=gB 1 eS data_1) (.inl rfl) [] trivial rfl rfl rfl rfl rfl (by kernel_rfl) kW rfl)
theorem iU {x_1:(List ByteArray)} {r:(List ByteArray)} (hF:bu x_1=some r) :
  FnM Tryz.prog 29 [(dV (av 0) 1 x_1)] (([]:List Box)++gI 1 eS x_1) (.tup []) (([]:List Box).map some++gT x_1 (gB 1 eS r)):=by
 refine FnM.of_wHv ⟨Tryz.prog,11,[],[]⟩ rfl Tryz.func29 rfl rfl (lb_ rfl) (by kernel_rfl) ?_
 unfold bu at hF
 refine ai (aa (dV (av 0) 1 x_1) (Gq pG rfl wz (aa (vI (x_1.length:Int)) (af (au (aa (dV (av 0) 1 x_1) (aa (vI (x_1.length:Int)) (aa (vI (x_1.length:Int)) (Dl un3 un84 rfl wz ?_)))))))))
 obtain ⟨r_2,hr_3,hF⟩:=bind_some hF
 refine aF (qH hr_3) rfl hb55 rfl rfl rfl rfl wz ?_
 obtain ⟨r_4,hr_5,hF⟩:=bind_some hF
 obtain ⟨_,hs_6,hF⟩:=bind_some hF
 replace hs_6:=oK hs_6
 refine ny 0 [] 0 0 il ft (lG hr_5) rfl hb54 rfl rfl rfl (by kernel_rfl) rfl (.inr (.inl rfl)) rfl (by kernel_rfl) (by kernel_rfl) (by kernel_rfl) (by kernel_rfl) rfl (by decide) (by kernel_rfl) kW (uR hs_6) wz ([((av 0),gB 1 eS r_4)]:Hp) (by kernel_rfl) (dQ (v':=(dV (av 0) 1 r_4)) 0 rfl (eZ hs_6.symm) (dQ (v':=(dV (av 0) 1 r_4)) 3 rfl (eZ hs_6.symm) (dQ (v':=(dV (av 0) 1 r_4)) 5 rfl (eZ hs_6.symm) (af ?_))))
 show tH _ _ _ _ _ _ _ _
 obtain rfl:=ae hF
 exact Aq (bs:=([]:List Box)) (os:=([]:List Box)) (xs:=x_1) (o:=gB 1 eS r_4) (.inl rfl) [] trivial rfl rfl rfl rfl rfl (by kernel_rfl) kW rfl
theorem yH {l_1:(List Alert)} {id_2:ByteArray} {r:(List ByteArray)×Int} (hF:gL l_1 id_2=some r) :
  FnM Tryz.prog 7 [(vL Alert.enc l_1),(vS id_2)] [] (.tup [(vL eS r.1),(vI r.2)]) []:=by
 refine FnM.of_wH ⟨Tryz.prog,119,[78],[]⟩ rfl Tryz.func7 rfl rfl (lb_ rfl) (by kernel_rfl) ?_
 unfold gL at hF
 refine ai (gP 0 (.inl rfl) [(vS id_2)] rfl rfl wz (λn_3=>aa .nil (aa (vI 0) (af (ak (ai (aa (vL Alert.enc l_1) ?_)))))))
 obtain ⟨r_4,hr_5,hF⟩:=bind_some hF
 refine aF (iO hr_5) rfl hb25 rfl rfl rfl rfl wz (aa (vI r_4) (af (ai (aa (vI r_4) (aa (vB (r_4 != 0)) (af ?_))))))
 rcases aj hF with⟨hc_6,hF⟩|⟨hc_6,hF⟩
 ·refine aB rfl hc_6 (ai (aa (vI r_4) (aa .nil (aa (vI r_4) (af ?_)))))
  obtain rfl:=ae hF
  exact ay (aM [.nil,(vI r_4)] ⟨rfl,⟨rfl,trivial⟩⟩)
 ·refine aA rfl hc_6 (ax (ai (aa (vL Alert.enc l_1) (aa (.fn 27 [(.ref n_3 0 0)]) ?_))))
  obtain ⟨r_7,hr_8,hF⟩:=bind_some hF
  refine aV 0 [0] il ft (dJ (gid:=27) (caps:=[.ref (av 0) 0 0]) (Sin:=[(.cells 1 [(vS id_2)])]) (λ_ _ h_=>wI h_) hb27 ⟨rfl,rfl⟩ (by kernel_rfl) (vo (by kernel_rfl)) (rD (by kernel_rfl)) hr_8) rfl hb26 rfl (by kernel_rfl) (by kernel_rfl) (by kernel_rfl) (by kernel_rfl) (by kernel_rfl) (by kernel_rfl) (by kernel_rfl) (by decide) (by kernel_rfl) wz (vI r_7) (by kernel_rfl) ([(n_3,some (.cells 1 [(vS id_2)]))]:Hp) (by kernel_rfl) (aa (vI r_7) (af (ak (ai (aa (vI r_7) (aa (vB (decide (r_7<0))) (af ?_)))))))
  rcases aj hF with⟨hc_10,hF⟩|⟨hc_10,hF⟩
  ·refine aB rfl hc_10 (ai (aa .nil (aa (vI 8) (af ?_))))
   obtain rfl:=ae hF
   exact ay (aM [.nil,(vI 8)] ⟨rfl,⟨rfl,trivial⟩⟩)
  ·refine aA rfl hc_10 (ax (ai (aa (vL Alert.enc l_1) (dB qi rfl wz ?_))))
   obtain ⟨m_11,hm_12,hF⟩:=bind_some hF
   obtain ⟨_,hz_13,hF⟩:=bind_some hF
   refine JC (α:=Int) (enc:=eI) (sz:=1) 0 (.inl rfl) el58 Bj z22 by22 rfl rfl hm_12 (nzI_ne hz_13) wz (λn_14 ns_15=>aa (.vs n_14 1 0 m_11) (af (ak (ai (aa (vL Alert.enc l_1) (dB qi rfl wz (aa (vI 0) (af ?_))))))))
   obtain ⟨o_26,hj_27,hF⟩:=bind_some hF
   obtain ⟨hn_20,hj_27⟩:=aZ hj_27
   refine iI (σ:=(List (List Int))) (N:=(Nat->Nm)) (λp=>(λ(s_21:(List (List Int))) (ns_23:(Nat->Nm))=>([(0,(vL Alert.enc l_1)),(7,(vI r_7)),(8,(.vs n_14 1 0 m_11))]:SL_)) p.1 p.2) (λp=>(λ(s_21:(List (List Int))) (ns_23:(Nat->Nm))=>(([(n_3,some (.cells 1 [(vS id_2)])),(n_14,some (.cells 1 (bO 1 ns_23 s_21)))]:Hp)++(dA 1 eI ns_23 s_21))) p.1 p.2) (λ(k_16:Nat)=>(λp=>(λ(s_21:(List (List Int))) (ns_23:(Nat->Nm))=>([(0,(vL Alert.enc l_1)),(7,(vI r_7)),(8,(.vs n_14 1 0 m_11)),(32,(vL Alert.enc l_1)),(33,(vI (l_1.length:Int))),(34,(vI (k_16:Int)))]:SL_)) p.1 p.2)) (λk x s=>iA l_1 m_11 k x s) o_26 l_1 ((List.replicate m_11 ([]:List Int)),ns_15) hj_27 rfl (kP (C1:=([(n_3,some (.cells 1 [(vS id_2)])),(n_14,some (.cells 1 (bO 1 ns_15 (List.replicate m_11 ([]:List Int)))))]:Hp)) (T:=(dA 1 eI ns_15 (List.replicate m_11 ([]:List Int)))) [0,1] (by decide) rfl rfl) ?_ ?_
   ·rintro ⟨k_16,l_17,s_21,ns_23⟩ ⟨hL_25,hD_19⟩
    dsimp only at hL_25 hD_19
    cases l_17 with
    | nil =>
     obtain rfl:=ae hL_25
     refine ai (aa (vB (decide ((k_16:Int)<(l_1.length:Int)))) (af ?_))
     refine ak (aA rfl (drop_nil hD_19) (bn ?_))
     exact aW (s_21,ns_23) rfl rfl (kP (C1:=([(n_3,some (.cells 1 [(vS id_2)])),(n_14,some (.cells 1 (bO 1 ns_23 s_21)))]:Hp)) (T:=(dA 1 eI ns_23 s_21)) [0,1] (by decide) rfl rfl)
    | cons x_18 l_17 =>
     obtain ⟨c_,hc_24,hL_25⟩:=bind_some hL_25
     refine ai (aa (vB (decide ((k_16:Int)<(l_1.length:Int)))) (af ?_))
     refine ak (aB rfl (bC hD_19) (ax ?_))
     unfold iA at hc_24
     refine ak (aN (ai (aa (vI (k_16:Int)) (iV nM rfl rfl (bT hD_19) rfl wz (eP fo iW rfl (.d (.agg (Alert.enc x_18))) rfl wz (fF 0 (.inl rfl) z51 rfl wz (λn_28=>C9 (C0:=([(n_3,some (.cells 1 [(vS id_2)])),(n_14,some (.cells 1 (bO 1 ns_23 s_21)))]:Hp)) (T:=(dA 1 eI ns_23 s_21)) (X:=([(n_28,some (.cells 9 [(vS (⟨#[]⟩:ByteArray)),(vS (⟨#[]⟩:ByteArray)),(vI 0),.nil,(vI 0),(vI 0),(vI 0),.nil,(vS (⟨#[]⟩:ByteArray))]))]:Hp)) (aa (vI (k_16:Int)) (fV 0 il ft 2 fo rfl rfl (Alert.v x_18) rfl wz (af (ai (aH jl rfl 3 rfl wz (aG 0 2 il ft qG tK rfl rfl (vL eS x_18.Refs) rfl wz (dB pG rfl wz (aa (vI 0) (af ?_))))))))))))))))
     obtain ⟨o_39,hj_40,hc_24⟩:=bind_some hc_24
     obtain ⟨hn_33,hj_40⟩:=aZ hj_40
     refine iI (σ:=(List (List Int))) (N:=(Nat->Nm)) (λp=>(λ(s_34:(List (List Int))) (ns_36:(Nat->Nm))=>([(0,(vL Alert.enc l_1)),(7,(vI r_7)),(8,(.vs n_14 1 0 m_11)),(32,(vL Alert.enc l_1)),(33,(vI (l_1.length:Int))),(34,(vI (k_16:Int)))]:SL_)) p.1 p.2) (λp=>(λ(s_34:(List (List Int))) (ns_36:(Nat->Nm))=>(([(n_3,some (.cells 1 [(vS id_2)])),(n_14,some (.cells 1 (bO 1 ns_36 s_34))),(n_28,some (.cells 9 (Alert.v x_18)))]:Hp)++(dA 1 eI ns_36 s_34))) p.1 p.2) (λ(k_29:Nat)=>(λp=>(λ(s_34:(List (List Int))) (ns_36:(Nat->Nm))=>([(0,(vL Alert.enc l_1)),(7,(vI r_7)),(8,(.vs n_14 1 0 m_11)),(9,(vI (k_16:Int))),(10,(.ref n_28 0 0)),(32,(vL Alert.enc l_1)),(33,(vI (l_1.length:Int))),(34,(vI (k_16:Int))),(40,(vL eS x_18.Refs)),(41,(vI (x_18.Refs.length:Int))),(42,(vI (k_29:Int)))]:SL_)) p.1 p.2)) (λk x s=>iG l_1 x_18 m_11 k_16 k x s) o_39 x_18.Refs (s_21,ns_23) hj_40 rfl (kP (C1:=([(n_3,some (.cells 1 [(vS id_2)])),(n_14,some (.cells 1 (bO 1 ns_23 s_21))),(n_28,some (.cells 9 (Alert.v x_18)))]:Hp)) (T:=(dA 1 eI ns_23 s_21)) [0,1,2] (by decide) rfl rfl) ?_ ?_
     ·rintro ⟨k_29,l_30,s_34,ns_36⟩ ⟨hL_38,hD_32⟩
      dsimp only at hL_38 hD_32
      cases l_30 with
      | nil =>
       obtain rfl:=ae hL_38
       refine ai (aa (vB (decide ((k_29:Int)<(x_18.Refs.length:Int)))) (af ?_))
       refine ak (aA rfl (drop_nil hD_32) (bn ?_))
       exact aW (s_34,ns_36) rfl rfl (kP (C1:=([(n_3,some (.cells 1 [(vS id_2)])),(n_14,some (.cells 1 (bO 1 ns_36 s_34))),(n_28,some (.cells 9 (Alert.v x_18)))]:Hp)) (T:=(dA 1 eI ns_36 s_34)) [0,1,2] (by decide) rfl rfl)
      | cons x_31 l_30 =>
       obtain ⟨c_,hc_37,hL_38⟩:=bind_some hL_38
       refine ai (aa (vB (decide ((k_29:Int)<(x_18.Refs.length:Int)))) (af ?_))
       refine ak (aB rfl (bC hD_32) (ax ?_))
       unfold iG at hc_37
       refine ak (aN (ai (iV iL rfl rfl (bT hD_32) rfl wz (eP sz9 ag9 rfl (vS x_31) rfl wz (aa (vS x_31) (af (ai (aa (vL Alert.enc l_1) (aG 0 2 il ft fo iW rfl rfl (.d (.agg (Alert.enc x_18))) rfl wz (aa (vS x_31) ?_))))))))))
       obtain ⟨r_41,hr_42,hc_37⟩:=bind_some hc_37
       refine aF (qm hr_42) rfl hb28 rfl rfl rfl rfl wz (aa (vI r_41) (af (ai (aa (vI r_41) (aa (vB (decide (r_41>=0))) (af ?_))))))
       obtain ⟨v_43,h_44,hc_37⟩:=bind_some hc_37
       refine jO (β:=(Nat->Nm)) (λ(ns_45:(Nat->Nm))=>([(0,(vL Alert.enc l_1)),(7,(vI r_7)),(8,(.vs n_14 1 0 m_11)),(9,(vI (k_16:Int))),(10,(.ref n_28 0 0)),(32,(vL Alert.enc l_1)),(33,(vI (l_1.length:Int))),(34,(vI (k_16:Int))),(40,(vL eS x_18.Refs)),(41,(vI (x_18.Refs.length:Int))),(42,(vI (k_29:Int)))]:SL_)) (λ(ns_45:(Nat->Nm))=>(([(n_3,some (.cells 1 [(vS id_2)])),(n_14,some (.cells 1 (bO 1 ns_45 v_43))),(n_28,some (.cells 9 (Alert.v x_18)))]:Hp)++(dA 1 eI ns_45 v_43))) (λ_=>True) ?_ ?_
       ·rcases aj h_44 with⟨hc_46,h_44⟩|⟨hc_46,h_44⟩
        ·refine aB rfl hc_46 (fG (aa (.vs n_14 1 0 m_11) (aa (vI r_41) (aa (.vs n_14 1 0 m_11) (aa (vI (k_16:Int)) (aa (.vs n_14 1 0 m_11) (aa (vI r_41) ?_)))))))
         obtain ⟨_,hi_47,h_44⟩:=bind_some h_44
         refine wX Kl rfl rfl (yX hi_47) (u7 hi_47) wz ?_
         obtain ⟨r_48,hr_49,h_44⟩:=bind_some h_44
         refine GR 7 1 (.inr (by kernel_rfl)) (λ_ _ ag=>trivial) Bj Gm rfl rfl hr_49 wz (aa (vI (k_16:Int)) (eO (([(k_16:Int)]:List Int).map eI) pK xw rfl rfl rfl rfl rfl wz ?_))
         obtain ⟨a_50,hz_51,h_44⟩:=bind_some h_44
         refine KI (H0:=(([(n_3,some (.cells 1 [(vS id_2)])),(n_14,some (.cells 1 (bO 1 ns_36 s_34))),(n_28,some (.cells 9 (Alert.v x_18)))]:Hp)++(dA 1 eI ns_36 s_34))) rfl (CW (P:=n_14≠(ns_36 (0+(r_41).toNat))) (λ_ _ ag=>F4 ag (j:=1) rfl hr_49) (λhk_53=>J4 10 (.inr (by kernel_rfl)) (λ_ _ ag=>⟨.inr (.inr (by kernel_rfl)),trivial⟩) ET ET sz3 z3 rfl (by decide) by3 (by decide) (λ_=>rfl) rfl hr_49 rfl hz_51 wz (λn_52=>CW (P:=n_14≠n_52) (λ_ _ ag=>Hy ag (j:=1) rfl hr_49) (λhk_54=>aa (.vs n_14 1 0 m_11) (aa (vI (k_16:Int)) ?_)))))
         obtain ⟨_,hi_55,h_44⟩:=bind_some h_44
         refine wX Kl rfl rfl (yX hi_55) (u7 hi_55) wz ?_
         obtain ⟨_,hne_56,h_44⟩:=bind_some h_44
         replace hne_56:=neN_ne hne_56
         obtain ⟨r_57,hr_58,h_44⟩:=bind_some h_44
         refine GR 14 1 (.inr (by kernel_rfl)) (λ_ _ ag=>⟨.inl ⟨rfl,rfl⟩,⟨.inr (.inl (dis2 hk_53 hk_54)),trivial⟩⟩) Bj Gm rfl rfl hr_58 wz ?_
         have hr_59:=row_set (z:=a_50) hne_56 hr_58
         refine dQ (v':=(gV ((ql ns_36 (0+(r_41).toNat) n_52) (0+((k_16:Int)).toNat)) 1 r_57)) 66 rfl (gV_row hne_56) (aa (vI r_41) (eO (([r_41]:List Int).map eI) pK xw rfl rfl rfl rfl rfl wz ?_))
         obtain ⟨a_60,hz_61,h_44⟩:=bind_some h_44
         refine KI (H0:=(([(n_3,some (.cells 1 [(vS id_2)])),(n_14,some (.cells 1 (bO 1 ns_36 s_34))),(n_28,some (.cells 9 (Alert.v x_18)))]:Hp)++(dA 1 eI (ql ns_36 (0+(r_41).toNat) n_52) (s_34.set (0+(r_41).toNat) a_50)))) rfl (CW (P:=n_14≠((ql ns_36 (0+(r_41).toNat) n_52) (0+((k_16:Int)).toNat))) (λ_ _ ag=>F4 ag (j:=1) rfl hr_59) (λhk_63=>J4 17 (.inr (by kernel_rfl)) (λ_ _ ag=>⟨.inr (.inr (by kernel_rfl)),⟨.inr (.inr (by kernel_rfl)),⟨.inr (.inr (by kernel_rfl)),trivial⟩⟩⟩) ET ET sz3 z3 rfl (by decide) by3 (by decide) (λ_=>rfl) rfl hr_59 rfl hz_61 wz (λn_62=>CW (P:=n_14≠n_62) (λ_ _ ag=>Hy ag (j:=1) rfl hr_59) (λhk_64 => ?_))))
         obtain ⟨_,hi_65,h_44⟩:=bind_some h_44
         refine wX Kl rfl rfl (yX hi_65) (u7 hi_65) wz ?_
         obtain ⟨r_66,hr_67,h_44⟩:=bind_some h_44
         refine h_gst 19 1 (.inr (by kernel_rfl)) (λ_ _ ag=>⟨.inr (.inr (by kernel_rfl)),⟨.inr (.inr (by kernel_rfl)),⟨.inr (.inr (by kernel_rfl)),⟨.inr (.inr (by kernel_rfl)),trivial⟩⟩⟩⟩) Bj rfl rfl rfl (KN hr_67) wz ?_
         obtain ⟨_,hi_68,h_44⟩:=bind_some h_44
         refine wX Kl rfl rfl (yX hi_68) (u7 hi_68) wz ?_
         obtain ⟨r_69,hr_70,h_44⟩:=bind_some h_44
         refine h_gst 21 1 (.inr (by kernel_rfl)) (λ_ _ ag=>⟨.inr (.inr (by kernel_rfl)),⟨.inr (.inr (by kernel_rfl)),⟨.inr (.inr (by kernel_rfl)),⟨.inr (.inr (by kernel_rfl)),⟨.inr (.inr (by kernel_rfl)),trivial⟩⟩⟩⟩⟩) Bj rfl rfl rfl (KN hr_70) wz (af ?_)
         obtain rfl:=ae h_44
         exact aW (ql (ql ns_36 (0+(r_41).toNat) n_52) (0+((k_16:Int)).toNat) n_62) trivial rfl (kP (C1:=([(n_3,some (.cells 1 [(vS id_2)])),(n_14,some (.cells 1 (bO 1 (ql (ql ns_36 (0+(r_41).toNat) n_52) (0+((k_16:Int)).toNat) n_62) ((s_34.set (0+(r_41).toNat) a_50).set (0+((k_16:Int)).toNat) a_60)))),(n_28,some (.cells 9 (Alert.v x_18)))]:Hp)) (T:=(dA 1 eI (ql (ql ns_36 (0+(r_41).toNat) n_52) (0+((k_16:Int)).toNat) n_62) ((s_34.set (0+(r_41).toNat) a_50).set (0+((k_16:Int)).toNat) a_60))) [0,1,2] (by decide) rfl rfl)
        ·refine aA rfl hc_46 (ax ?_)
         obtain rfl:=ae h_44
         exact aW ns_36 trivial rfl (kP (C1:=([(n_3,some (.cells 1 [(vS id_2)])),(n_14,some (.cells 1 (bO 1 ns_36 s_34))),(n_28,some (.cells 9 (Alert.v x_18)))]:Hp)) (T:=(dA 1 eI ns_36 s_34)) [0,1,2] (by decide) rfl rfl)
       ·rintro ns_45 _ sl_ H_ hp_ hq_
        refine aP _ hp_ hq_ (au (fQ (bL hD_32 hn_33) wz rfl (aa (vI ((k_29+1:Nat):Int)) (af ?_))))
        obtain rfl:=ae hc_37
        exact bg (k_29+1,l_30,v_43,ns_45) ⟨hL_38,aS hD_32⟩ (ls_ _) rfl (kP (C1:=([(n_3,some (.cells 1 [(vS id_2)])),(n_14,some (.cells 1 (bO 1 ns_45 v_43))),(n_28,some (.cells 9 (Alert.v x_18)))]:Hp)) (T:=(dA 1 eI ns_45 v_43)) [0,1,2] (by decide) rfl rfl)
     ·rintro ⟨s_34,ns_36⟩ ho_ sl_ H_ hp_ hq_
      subst ho_
      refine aP _ hp_ hq_ (au (fQ (bL hD_19 hn_20) wz rfl (aa (vI ((k_16+1:Nat):Int)) (af ?_))))
      obtain rfl:=ae hc_24
      exact bg (k_16+1,l_17,s_34,ns_36) ⟨hL_25,aS hD_19⟩ (ls_ _) rfl (kP (C1:=([(n_3,some (.cells 1 [(vS id_2)])),(n_14,some (.cells 1 (bO 1 ns_36 s_34))),(n_28,some (.cells 9 (Alert.v x_18)))]:Hp)) (T:=(dA 1 eI ns_36 s_34)) [0,1] (by decide) rfl rfl)
   ·rintro ⟨s_21,ns_23⟩ ho_ sl_ H_ hp_ hq_
    subst ho_
    refine aP _ hp_ hq_ (ai (Dc 0 (.inl rfl) wz (λn_71=>C9 (C0:=([(n_3,some (.cells 1 [(vS id_2)])),(n_14,some (.cells 1 (bO 1 ns_23 s_21)))]:Hp)) (T:=(dA 1 eI ns_23 s_21)) (X:=([(n_71,some (bM (D.int .i64) D.bool ([]:List (Int×Bool))))]:Hp)) (aa (vI r_7) (KS (eq:=eqI) (kD:=(D.int .i64)) (vD:=D.bool) (es:=([]:List (Int×Bool))) (k:=r_7) (v:=true) 0 2 il ft (λ_ _=>rfl) mt60 (by kernel_rfl) rfl rfl rfl rfl wz (aa (.map n_71) (aa (.map n_71) (af (ai (aa .nil (af (ak (ai (aa (vI r_7) (K7 0 (.inl rfl) (([r_7]:List Int).map eI) pK xw rfl rfl rfl rfl rfl wz (λn_72=>C9 (C0:=([(n_3,some (.cells 1 [(vS id_2)])),(n_14,some (.cells 1 (bO 1 ns_23 s_21))),(n_71,some (bM (D.int .i64) D.bool (kQ eqI ([]:List (Int×Bool)) r_7 true)))]:Hp)) (T:=(dA 1 eI ns_23 s_21)) (X:=([(n_72,some (bV 1 eI ([r_7]:List Int)))]:Hp)) (aa (vV n_72 1 ([r_7]:List Int)) (af (qc (λn_79=>Kz (C0:=([(n_3,some (.cells 1 [(vS id_2)])),(n_14,some (.cells 1 (bO 1 ns_23 s_21))),(n_71,some (bM (D.int .i64) D.bool (kQ eqI ([]:List (Int×Bool)) r_7 true))),(n_72,some (bV 1 eI ([r_7]:List Int)))]:Hp)) (T:=(dA 1 eI ns_23 s_21)) (X:=([(n_79,gB 1 eS ([]:List ByteArray))]:Hp)) ?_))))))))))))))))))))
    obtain ⟨o_86,hj_87,hF⟩:=bind_some hF
    obtain ⟨nq_134,hj_87⟩:=gD hj_87
    refine EB (σ:=(List (Int×Bool))×(List Int)×(List ByteArray)×Nat) (N:=Nm×Nm) (λp=>(λ(s_78:(List (Int×Bool))×(List Int)×(List ByteArray)×Nat) (n_82:Nm) (n_83:Nm)=>([(15,(gV n_83 1 s_78.2.2.1))]:SL_)) p.1 p.2.1 p.2.2) (λp=>(λ(s_78:(List (Int×Bool))×(List Int)×(List ByteArray)×Nat) (n_82:Nm) (n_83:Nm)=>(([(n_3,some (.cells 1 [(vS id_2)])),(n_14,some (.cells 1 (bO 1 ns_23 s_21))),(n_71,some (bM (D.int .i64) D.bool s_78.1)),(n_82,some (bV 1 eI s_78.2.1)),(n_83,gB 1 eS s_78.2.2.1)]:Hp)++(dA 1 eI ns_23 s_21))) p.1 p.2.1 p.2.2) (λ(k_73:Nat)=>(λp=>(λ(s_78:(List (Int×Bool))×(List Int)×(List ByteArray)×Nat) (n_82:Nm) (n_83:Nm)=>([(0,(vL Alert.enc l_1)),(8,(.vs n_14 1 0 m_11)),(14,(.map n_71)),(15,(gV n_83 1 s_78.2.2.1)),(16,(qV n_82 1 s_78.2.1 s_78.2.2.2))]:SL_)) p.1 p.2.1 p.2.2)) (λs=>iy l_1 m_11 s_21 s) o_86 nq_134 (((kQ eqI ([]:List (Int×Bool)) r_7 true),([r_7]:List Int),([]:List ByteArray),0),n_72,n_79) hj_87 rfl (kP (C1:=([(n_3,some (.cells 1 [(vS id_2)])),(n_14,some (.cells 1 (bO 1 ns_23 s_21))),(n_71,some (bM (D.int .i64) D.bool (kQ eqI ([]:List (Int×Bool)) r_7 true))),(n_72,some (bV 1 eI ([r_7]:List Int))),(n_79,gB 1 eS ([]:List ByteArray))]:Hp)) (T:=(dA 1 eI ns_23 s_21)) [0,1,2,3,4] (by decide) rfl rfl) ?_ ?_
    ·rintro ⟨k_73,s_78,n_82,n_83⟩ hL_85
     dsimp only at hL_85
     cases k_73 with
     | zero=>cases hL_85
     | succ k_73 =>
      obtain ⟨c_,hc_84,hL_85⟩:=bind_some hL_85
      unfold iy at hc_84
      refine ak (ai (aa (qV n_82 1 s_78.2.1 s_78.2.2.2) (h_lenp EK rfl wz (aa (vB (decide ((((s_78.2.1.length-s_78.2.2.2):Nat):Int)>0))) (af ?_)))))
      rcases aj hc_84 with⟨hc_88,hc_84⟩|⟨hc_88,hc_84⟩
      ·refine aB rfl hc_88 (ax (ak (aN (ai (aa (gV n_83 1 s_78.2.2.1) (aa (vL Alert.enc l_1) (aa (qV n_82 1 s_78.2.1 s_78.2.2.2) ?_)))))))
       obtain ⟨_,hi_89,hc_84⟩:=bind_some hc_84
       refine wX pK rfl rfl (yX hi_89) (u7 hi_89) wz ?_
       obtain ⟨e_90,hy_91,hc_84⟩:=bind_some hc_84
       refine K8 0 3 il ft sz3 ag3 rfl rfl hy_91 (vI e_90) rfl wz ?_
       obtain ⟨y_92,hy_93,hc_84⟩:=bind_some hc_84
       refine iV nM rfl rfl hy_93 rfl wz (h_fac fw rfl (Alert.enc y_92) rfl rfl wz (eP sz9 ag9 rfl (vS y_92.Id) rfl wz (eO (([y_92.Id]:List ByteArray).map eS) iL oM rfl rfl rfl rfl rfl wz ?_)))
       obtain ⟨a_94,hz_95,hc_84⟩:=bind_some hc_84
       refine pF 0 il ft (i:=4) uE uE sz9 z9 rfl (by decide) by9 (by decide) (λ_=>rfl) rfl rfl rfl hz_95 wz (λn_96=>aa (gV n_96 1 a_94) (af (ai (aa (.vs n_14 1 0 m_11) (aa (qV n_82 1 s_78.2.1 s_78.2.2.2) ?_)))))
       obtain ⟨_,hi_97,hc_84⟩:=bind_some hc_84
       refine wX pK rfl rfl (yX hi_97) (u7 hi_97) wz ?_
       obtain ⟨e_98,hy_99,hc_84⟩:=bind_some hc_84
       refine K8 0 3 il ft sz3 ag3 rfl rfl hy_99 (vI e_98) rfl wz ?_
       obtain ⟨_,hi_100,hc_84⟩:=bind_some hc_84
       refine wX Kl rfl rfl (yX hi_100) (u7 hi_100) wz ?_
       obtain ⟨r_101,hr_102,hc_84⟩:=bind_some hc_84
       refine GR 0 1 il ft Bj Gm rfl rfl hr_102 wz (CB EK rfl wz (aa (vI 0) (af ?_)))
       obtain ⟨o_115,hj_116,hc_84⟩:=bind_some hc_84
       obtain ⟨hn_107,hj_116⟩:=aZ hj_116
       refine iI (σ:=(List (Int×Bool))×(List Int)×Nat) (N:=Nm×Nm) (λp=>(λ(s_108:(List (Int×Bool))×(List Int)×Nat) (n_111:Nm) (n_112:Nm)=>([(0,(vL Alert.enc l_1)),(8,(.vs n_14 1 0 m_11)),(14,(.map n_71)),(15,(gV n_112 1 a_94)),(16,(qV n_111 1 s_108.2.1 s_108.2.2))]:SL_)) p.1 p.2.1 p.2.2) (λp=>(λ(s_108:(List (Int×Bool))×(List Int)×Nat) (n_111:Nm) (n_112:Nm)=>(([(n_3,some (.cells 1 [(vS id_2)])),(n_14,some (.cells 1 (bO 1 ns_23 s_21))),(n_71,some (bM (D.int .i64) D.bool s_108.1)),(n_111,some (bV 1 eI s_108.2.1)),(n_112,gB 1 eS a_94)]:Hp)++(dA 1 eI ns_23 s_21))) p.1 p.2.1 p.2.2) (λ(k_103:Nat)=>(λp=>(λ(s_108:(List (Int×Bool))×(List Int)×Nat) (n_111:Nm) (n_112:Nm)=>([(0,(vL Alert.enc l_1)),(8,(.vs n_14 1 0 m_11)),(14,(.map n_71)),(15,(gV n_112 1 a_94)),(16,(qV n_111 1 s_108.2.1 s_108.2.2)),(99,(gV (ns_23 (0+(e_98).toNat)) 1 r_101)),(100,(vI (r_101.length:Int))),(101,(vI (k_103:Int)))]:SL_)) p.1 p.2.1 p.2.2)) (λk x s=>iE r_101 s_21 e_98 k x s) o_115 (List.range ((r_101.length:Int)).toNat) ((s_78.1,s_78.2.1,s_78.2.2.2),n_82,n_96) hj_116 rfl (kP (C1:=([(n_3,some (.cells 1 [(vS id_2)])),(n_14,some (.cells 1 (bO 1 ns_23 s_21))),(n_71,some (bM (D.int .i64) D.bool s_78.1)),(n_82,some (bV 1 eI s_78.2.1)),(n_96,gB 1 eS a_94)]:Hp)) (T:=(dA 1 eI ns_23 s_21)) [0,1,2,3,4] (by decide) rfl rfl) ?_ ?_
       ·rintro ⟨k_103,l_104,s_108,n_111,n_112⟩ ⟨hL_114,hD_106⟩
        dsimp only at hL_114 hD_106
        cases l_104 with
        | nil =>
         obtain rfl:=ae hL_114
         refine ai (aa (vB (decide ((k_103:Int)<(r_101.length:Int)))) (af ?_))
         refine ak (aA rfl (qC hD_106) (bn ?_))
         exact aW (s_108,n_111,n_112) rfl rfl (kP (C1:=([(n_3,some (.cells 1 [(vS id_2)])),(n_14,some (.cells 1 (bO 1 ns_23 s_21))),(n_71,some (bM (D.int .i64) D.bool s_108.1)),(n_111,some (bV 1 eI s_108.2.1)),(n_112,gB 1 eS a_94)]:Hp)) (T:=(dA 1 eI ns_23 s_21)) [0,1,2,3,4] (by decide) rfl rfl)
        | cons x_105 l_104 =>
         obtain ⟨c_,hc_113,hL_114⟩:=bind_some hL_114
         refine ai (aa (vB (decide ((k_103:Int)<(r_101.length:Int)))) (af ?_))
         refine ak (aB rfl (o5 hD_106) (ax ?_))
         unfold iE at hc_113
         refine ak (aN (ai ?_))
         obtain ⟨_,hi_117,hc_113⟩:=bind_some hc_113
         refine CQ pK rfl rfl (nD hi_117) (ko hi_117) wz ?_
         obtain ⟨r_118,hr_119,hc_113⟩:=bind_some hc_113
         obtain ⟨e_120,hy_121,hc_113⟩:=bind_some hc_113
         refine KI (H0:=(([(n_3,some (.cells 1 [(vS id_2)])),(n_14,some (.cells 1 (bO 1 ns_23 s_21))),(n_71,some (bM (D.int .i64) D.bool s_108.1)),(n_111,some (bV 1 eI s_108.2.1)),(n_112,gB 1 eS a_94)]:Hp)++(dA 1 eI ns_23 s_21))) rfl (h_gld 0 il ft sz3 ag3 rfl hr_119 hy_121 (vI e_120) rfl wz (aa (vI e_120) (af (ai (aa (.map n_71) (aa (vI e_120) (ES (eq:=eqI) (kD:=(D.int .i64)) (vD:=D.bool) (es:=s_108.1) (k:=e_120) (z:=false) 0 2 il ft (λ_ _=>rfl) mt60 (by kernel_rfl) (by kernel_rfl) rfl rfl rfl (vB ((qA eqI s_108.1 e_120).getD false)) rfl wz (aa (vB (!((qA eqI s_108.1 e_120).getD false))) (af ?_)))))))))
         obtain ⟨v_122,h_123,hc_113⟩:=bind_some hc_113
         refine jO (β:=Nm) (λ(n_124:Nm)=>([(0,(vL Alert.enc l_1)),(8,(.vs n_14 1 0 m_11)),(14,(.map n_71)),(15,(gV n_112 1 a_94)),(16,(qV n_124 1 v_122.2.1 v_122.2.2)),(99,(gV (ns_23 (0+(e_98).toNat)) 1 r_101)),(100,(vI (r_101.length:Int))),(101,(vI (k_103:Int)))]:SL_)) (λ(n_124:Nm)=>(([(n_3,some (.cells 1 [(vS id_2)])),(n_14,some (.cells 1 (bO 1 ns_23 s_21))),(n_71,some (bM (D.int .i64) D.bool v_122.1)),(n_124,some (bV 1 eI v_122.2.1)),(n_112,gB 1 eS a_94)]:Hp)++(dA 1 eI ns_23 s_21))) (λ_=>True) ?_ ?_
         ·rcases aj h_123 with⟨hc_125,h_123⟩|⟨hc_125,h_123⟩
          ·refine aB rfl hc_125 (ai (aa (.map n_71) (aa (vI e_120) (Aa (eq:=eqI) (kD:=(D.int .i64)) (vD:=D.bool) (es:=s_108.1) (k:=e_120) (v:=true) 0 2 il ft (λ_ _=>rfl) mt60 (by kernel_rfl) rfl rfl rfl rfl wz (af (au (aa (qV n_111 1 s_108.2.1 s_108.2.2) (aa (vI e_120) (eO (([e_120]:List Int).map eI) pK xw rfl rfl rfl rfl rfl wz ?_)))))))))
           obtain ⟨_,hk_129,h_123⟩:=bind_some h_123
           obtain ⟨a_126,hz_127,h_123⟩:=bind_some h_123
           refine h_appq 0 il ft (i:=3) ET ET sz3 z3 rfl (by decide) by3 (by decide) (λ_=>rfl) rfl (leN_le hk_129) rfl rfl (List.cons_ne_nil _ _) hz_127 wz (λn_128=>aa (vV n_128 1 a_126) (af ?_))
           obtain rfl:=ae h_123
           exact aW n_128 trivial rfl (kP (C1:=([(n_3,some (.cells 1 [(vS id_2)])),(n_14,some (.cells 1 (bO 1 ns_23 s_21))),(n_71,some (bM (D.int .i64) D.bool (kQ eqI s_108.1 e_120 true))),(n_128,some (bV 1 eI a_126)),(n_112,gB 1 eS a_94)]:Hp)) (T:=(dA 1 eI ns_23 s_21)) [0,1,2,3,4] (by decide) rfl rfl)
          ·refine aA rfl hc_125 (ax ?_)
           obtain rfl:=ae h_123
           exact aW n_111 trivial rfl (kP (C1:=([(n_3,some (.cells 1 [(vS id_2)])),(n_14,some (.cells 1 (bO 1 ns_23 s_21))),(n_71,some (bM (D.int .i64) D.bool s_108.1)),(n_111,some (bV 1 eI s_108.2.1)),(n_112,gB 1 eS a_94)]:Hp)) (T:=(dA 1 eI ns_23 s_21)) [0,1,2,3,4] (by decide) rfl rfl)
         ·rintro n_124 _ sl_ H_ hp_ hq_
          refine aP _ hp_ hq_ (au (fQ (qP hD_106 hn_107) wz rfl (aa (vI ((k_103+1:Nat):Int)) (af ?_))))
          obtain rfl:=ae hc_113
          exact bg (k_103+1,l_104,(v_122.1,v_122.2.1,v_122.2.2),n_124,n_112) ⟨hL_114,aS hD_106⟩ (ls_ _) rfl (kP (C1:=([(n_3,some (.cells 1 [(vS id_2)])),(n_14,some (.cells 1 (bO 1 ns_23 s_21))),(n_71,some (bM (D.int .i64) D.bool v_122.1)),(n_124,some (bV 1 eI v_122.2.1)),(n_112,gB 1 eS a_94)]:Hp)) (T:=(dA 1 eI ns_23 s_21)) [0,1,2,3,4] (by decide) rfl rfl)
       ·rintro ⟨s_108,n_111,n_112⟩ ho_ sl_ H_ hp_ hq_
        subst ho_
        refine aP _ hp_ hq_ (au (aa (qV n_111 1 s_108.2.1 s_108.2.2) ?_))
        obtain ⟨_,hl_130,hc_84⟩:=bind_some hc_84
        refine h_qpop (n:=n_111) (xs:=s_108.2.1) (k:=s_108.2.2) EK sz3 rfl (ltN_lt hl_130) wz (aa (qV n_111 1 s_108.2.1 (s_108.2.2+1)) (af ?_))
        obtain rfl:=ae hc_84
        exact bg (k_73,(s_108.1,s_108.2.1,a_94,(s_108.2.2+1)),n_111,n_112) hL_85 (ls_ _) rfl (kP (C1:=([(n_3,some (.cells 1 [(vS id_2)])),(n_14,some (.cells 1 (bO 1 ns_23 s_21))),(n_71,some (bM (D.int .i64) D.bool s_108.1)),(n_111,some (bV 1 eI s_108.2.1)),(n_112,gB 1 eS a_94)]:Hp)) (T:=(dA 1 eI ns_23 s_21)) [0,1,2,3,4] (by decide) rfl rfl)
      ·refine aA rfl hc_88 (bn ?_)
       obtain rfl:=ae hc_84
       obtain rfl:=ae hL_85
       exact aW ((s_78.1,s_78.2.1,s_78.2.2.1,s_78.2.2.2),n_82,n_83) rfl rfl (kP (C1:=([(n_3,some (.cells 1 [(vS id_2)])),(n_14,some (.cells 1 (bO 1 ns_23 s_21))),(n_71,some (bM (D.int .i64) D.bool s_78.1)),(n_82,some (bV 1 eI s_78.2.1)),(n_83,gB 1 eS s_78.2.2.1)]:Hp)) (T:=(dA 1 eI ns_23 s_21)) [0,1,2,3,4] (by decide) rfl rfl)
    ·rintro ⟨s_78,n_82,n_83⟩ ho_ sl_ H_ hp_ hq_
     subst ho_
     refine aP _ hp_ hq_ (ai (aa (gV n_83 1 s_78.2.2.1) ?_))
     obtain ⟨r_131,hr_132,hF⟩:=bind_some hF
     obtain ⟨_,hs_133,hF⟩:=bind_some hF
     replace hs_133:=oK hs_133
     refine ny 0 [] 4 0 il ft (iU hr_132) rfl hb29 rfl rfl rfl (by kernel_rfl) rfl (.inl rfl) rfl (by kernel_rfl) (by kernel_rfl) (by kernel_rfl) (by kernel_rfl) rfl (by decide) (by kernel_rfl) kW (uR hs_133) wz (([(n_3,some (.cells 1 [(vS id_2)])),(n_14,some (.cells 1 (bO 1 ns_23 s_21))),(n_71,some (bM (D.int .i64) D.bool s_78.1)),(n_82,some (bV 1 eI s_78.2.1)),(n_83,gB 1 eS r_131)]:Hp)++(dA 1 eI ns_23 s_21)) (by kernel_rfl) (dQ (v':=(gV n_83 1 r_131)) 116 rfl (dK hs_133.symm) (dQ (v':=(gV n_83 1 r_131)) 15 rfl (dK hs_133.symm) (af (ai (aa (gV n_83 1 r_131) (aa (gV n_83 1 r_131) (aa (vI 0) (af (kw 4 rfl (fe 4 4 rfl rfl (fe 15 4 rfl rfl (fe 116 4 rfl rfl (fe 118 4 rfl rfl ?_)))))))))))))
     obtain rfl:=ae hF
     exact ay (aM [(vL eS r_131),(vI 0)] ⟨rfl,⟨rfl,trivial⟩⟩)
theorem xx {r_1:ByteArray} {p_2:(List Alert)} {p_3:Alert} {r:Bool} (hF:nA r_1 p_2 p_3=some r) :
  FnM Tryz.prog 31 [(vS r_1),(.ref (av 0) 0 0),(.ref (av 1) 0 0)] [(.cells 1 [(vL Alert.enc p_2)]),(.cells 9 (Alert.v p_3))] (vB r) [some (.cells 1 [(vL Alert.enc p_2)]),some (.cells 9 (Alert.v p_3))]:=by
 refine FnM.of_wH ⟨Tryz.prog,10,[],[]⟩ rfl Tryz.func31 rfl rfl (lb_ rfl) (by kernel_rfl) ?_
 unfold nA at hF
 refine ai (aa (vB false) (af (ai (aG 0 0 il ft KX KP rfl rfl (vL Alert.enc p_2) rfl wz (aG 0 1 il ft fo iW rfl rfl (.d (.agg (Alert.enc p_3))) rfl wz (aa (vS r_1) ?_))))))
 obtain ⟨r_4,hr_5,hF⟩:=bind_some hF
 refine aF (qm hr_5) rfl hb28 rfl rfl rfl rfl wz (aa (vB (decide (r_4<0))) (aa (vB (decide (r_4<0))) (af ?_)))
 obtain rfl:=ae hF
 exact ay (qM (.inr rfl) [(vB (decide (r_4<0)))] _ [0,1] [av 0,av 1] ⟨rfl,trivial⟩ (.cons (fB rfl rfl) (.nil)) (by kernel_rfl) ⟨(by kernel_rfl),⟨(by kernel_rfl),trivial⟩⟩ (by decide) (by kernel_rfl))
theorem lL {s_1:(List ByteArray)} {f_2:ByteArray->Option Bool} {r:Int} {gid:FuncId} {caps:List V} {Sin:List Box} (hfn:∀x0 r,f_2 x0=some r->FnM Tryz.prog gid ([(vS x0)]++caps) Sin (vB r) (Sin.map some)) (hbF:aD Tryz.prog gid=true) (hcapF:caps.flatMap frz=[]/\caps.map co0=caps) (hokF:okL Sin.length caps=true) (hsF:∀b∈Sin,b.ok Sin.length=true) (hmF:∀b∈Sin,b.mut=true) (hF:dS s_1 f_2=some r) :
  FnM Tryz.prog 56 [(vL eS s_1),(.fn gid caps)] Sin (vI r) (Sin.map some):=by
 refine FnM.of_wH ⟨Tryz.prog,19,[],[]⟩ rfl Tryz.func56 rfl rfl (lb_ rfl) (by kernel_rfl) ?_
 unfold dS at hF
 refine ai (aa (vI 0) (af (ak (ai (aa (vL eS s_1) (dB pG rfl wz (aa (vI 0) (af ?_))))))))
 obtain ⟨o_11,hj_12,hF⟩:=bind_some hF
 obtain ⟨hn_7,hj_12⟩:=aZ hj_12
 refine dF (λ(s_8:Unit)=>[]) (λ(s_8:Unit)=>(mg 0 Sin)) (λ(k_3:Nat)=>(λ(s_8:Unit)=>[(0,(vL eS s_1)),(1,(.fn gid caps)),(7,(vI (s_1.length:Int))),(8,(vI (k_3:Int)))])) (λk x s=>dD f_2 k x s) o_11 s_1 () hj_12 rfl (mr _) ?_ ?_
 ·rintro ⟨k_3,l_4,s_8⟩ ⟨hL_10,hD_6⟩
  dsimp only at hL_10 hD_6
  cases l_4 with
  | nil =>
   obtain rfl:=ae hL_10
   refine ai (aa (vB (decide ((k_3:Int)<(s_1.length:Int)))) (af ?_))
   refine ak (aA rfl (drop_nil hD_6) (bn ?_))
   exact aW (s_8) rfl rfl (mr _)
  | cons x_5 l_4 =>
   obtain ⟨c_,hc_9,hL_10⟩:=bind_some hL_10
   refine ai (aa (vB (decide ((k_3:Int)<(s_1.length:Int)))) (af ?_))
   refine ak (aB rfl (bC hD_6) (ax ?_))
   unfold dD at hc_9
   refine ak (aN (ai (aa (vI (k_3:Int)) (aa (vI (k_3:Int)) (af (ai (aa (.fn gid caps) (aa (vL eS s_1) (aa (vI (k_3:Int)) (iV iL rfl rfl (bT hD_6) rfl wz (eP sz9 ag9 rfl (vS x_5) rfl wz ?_)))))))))))
   obtain ⟨r_13,hr_14,hc_9⟩:=bind_some hc_9
   refine tZ (hfn _ _ hr_14) rfl hbF rfl rfl hcapF hokF hsF hmF rfl wz rfl (af ?_)
   rcases aj hc_9 with⟨hc_15,hc_9⟩|⟨hc_15,hc_9⟩
   ·refine aB rfl hc_15 (ai (aa (vI (k_3:Int)) (aa (vI (k_3:Int)) (af ?_))))
    obtain rfl:=ae hc_9
    obtain rfl:=ae hL_10
    obtain rfl:=ae hF
    exact ay (Dk hsF (.inr rfl) [(vI (k_3:Int))] ⟨rfl,trivial⟩ rfl rfl rfl)
   ·refine aA rfl hc_15 (ax (au (fQ (bL hD_6 hn_7) wz rfl (aa (vI ((k_3+1:Nat):Int)) (af ?_)))))
    obtain rfl:=ae hc_9
    exact bg (k_3+1,l_4,()) ⟨hL_10,aS hD_6⟩ (ls_ _) rfl (mr _)
 ·rintro s_8 ho_ sl_ H_ hp_ hq_
  subst ho_
  refine aP _ hp_ hq_ (ai (aa (vI (-1)) (af ?_)))
  obtain rfl:=ae hF
  exact ay (Dk hsF (.inr rfl) [(vI (-1))] ⟨rfl,trivial⟩ rfl rfl rfl)
theorem gH {s_1:(List ByteArray)} {f_2:ByteArray->Option Bool} {r:Bool} {gid:FuncId} {caps:List V} {Sin:List Box} (hfn:∀x0 r,f_2 x0=some r->FnM Tryz.prog gid ([(vS x0)]++caps) Sin (vB r) (Sin.map some)) (hbF:aD Tryz.prog gid=true) (hcapF:caps.flatMap frz=[]/\caps.map co0=caps) (hokF:okL Sin.length caps=true) (hsF:∀b∈Sin,b.ok Sin.length=true) (hmF:∀b∈Sin,b.mut=true) (hF:bD s_1 f_2=some r) :
  FnM Tryz.prog 30 [(vL eS s_1),(.fn gid caps)] Sin (vB r) (Sin.map some):=by
 refine FnM.of_wH ⟨Tryz.prog,9,[],[]⟩ rfl Tryz.func30 rfl rfl (lb_ rfl) (by kernel_rfl) ?_
 unfold bD at hF
 refine ai (aa (vB false) (af (ai (aa (vL eS s_1) (aa (.fn gid caps) ?_)))))
 obtain ⟨r_3,hr_4,hF⟩:=bind_some hF
 refine tZ (lL (gid:=gid) (caps:=caps) (Sin:=Sin) hfn hbF hcapF hokF hsF hmF hr_4) rfl hb56 rfl rfl ⟨rfl,rfl⟩ (by simp [okL,okV,hokF]) hsF hmF rfl wz rfl (aa (vB (decide (r_3>=0))) (aa (vB (decide (r_3>=0))) (af ?_)))
 obtain rfl:=ae hF
 exact ay (Dk hsF (.inr rfl) [(vB (decide (r_3>=0)))] ⟨rfl,trivial⟩ rfl rfl rfl)
theorem zW {l_1:(List Alert)} {r:(List ByteArray)×Int} (hF:kz l_1=some r) :
  FnM Tryz.prog 8 [(vL Alert.enc l_1)] [] (.tup [(vL eS r.1),(vI r.2)]) []:=by
 refine FnM.of_wH ⟨Tryz.prog,30,[],[]⟩ rfl Tryz.func8 rfl rfl (lb_ rfl) (by kernel_rfl) ?_
 unfold kz at hF
 refine ai (gP 0 (.inl rfl) [(vL Alert.enc l_1)] rfl rfl wz (λn_2=>aa .nil (aa (vI 0) (af (ak (ai (aG 0 0 il ft KX KP rfl rfl (vL Alert.enc l_1) rfl wz ?_)))))))
 obtain ⟨r_3,hr_4,hF⟩:=bind_some hF
 refine aF (iO hr_4) rfl hb25 rfl rfl rfl rfl wz (aa (vI r_3) (af (ai (aa (vI r_3) (aa (vB (r_3 != 0)) (af ?_))))))
 rcases aj hF with⟨hc_5,hF⟩|⟨hc_5,hF⟩
 ·refine aB rfl hc_5 (ai (aa (vI r_3) (aa .nil (aa (vI r_3) (af ?_)))))
  obtain rfl:=ae hF
  exact ay (aM [.nil,(vI r_3)] ⟨rfl,⟨rfl,trivial⟩⟩)
 ·refine aA rfl hc_5 (ax (ai (aa .nil (af (ak (ai (aG 0 0 il ft KX KP rfl rfl (vL Alert.enc l_1) rfl wz (dB qi rfl wz (aa (vI 0) (af (qc (λn_12 => ?_))))))))))))
  obtain ⟨o_17,hj_18,hF⟩:=bind_some hF
  obtain ⟨hn_10,hj_18⟩:=aZ hj_18
  refine iI (σ:=(List ByteArray)) (N:=Nm) (λp=>(λ(s_11:List ByteArray) (n_14:Nm)=>([(5,(gV n_14 1 s_11))]:SL_)) p.1 p.2) (λp=>(λ(s_11:List ByteArray) (n_14:Nm)=>([(n_2,some (.cells 1 [(vL Alert.enc l_1)])),(n_14,gB 1 eS s_11)]:Hp)) p.1 p.2) (λ(k_6:Nat)=>(λp=>(λ(s_11:List ByteArray) (n_14:Nm)=>([(1,(.ref n_2 0 0)),(5,(gV n_14 1 s_11)),(13,(vL Alert.enc l_1)),(14,(vI (l_1.length:Int))),(15,(vI (k_6:Int)))]:SL_)) p.1 p.2)) (λk x s=>mh l_1 k x s) o_17 l_1 (([]:List ByteArray),n_12) hj_18 rfl (aL rfl) ?_ ?_
  ·rintro ⟨k_6,l_7,s_11,n_14⟩ ⟨hL_16,hD_9⟩
   dsimp only at hL_16 hD_9
   cases l_7 with
   | nil =>
    obtain rfl:=ae hL_16
    refine ai (aa (vB (decide ((k_6:Int)<(l_1.length:Int)))) (af ?_))
    refine ak (aA rfl (drop_nil hD_9) (bn ?_))
    exact aW (s_11,n_14) rfl rfl (aL rfl)
   | cons x_8 l_7 =>
    obtain ⟨c_,hc_15,hL_16⟩:=bind_some hL_16
    refine ai (aa (vB (decide ((k_6:Int)<(l_1.length:Int)))) (af ?_))
    refine ak (aB rfl (bC hD_9) (ax ?_))
    unfold mh at hc_15
    refine ak (aN (ai (iV nM rfl rfl (bT hD_9) rfl wz (eP fo iW rfl (.d (.agg (Alert.enc x_8))) rfl wz (fF 0 (.inl rfl) z51 rfl wz (λn_19=>fV 0 il ft 2 fo rfl rfl (Alert.v x_8) rfl wz (af (ai (aH jl rfl 3 rfl wz (aG 0 2 il ft qG tK rfl rfl (vL eS x_8.Refs) rfl wz (aa (.fn 31 [(.ref n_2 0 0),(.ref n_19 0 0)]) ?_)))))))))))
    obtain ⟨r_20,hr_21,hc_15⟩:=bind_some hc_15
    refine aV 0 [0,2] il ft (gH (gid:=31) (caps:=[.ref (av 0) 0 0,.ref (av 1) 0 0]) (Sin:=[(.cells 1 [(vL Alert.enc l_1)]),(.cells 9 (Alert.v x_8))]) (λ_ _ h_=>xx h_) hb31 ⟨rfl,rfl⟩ (by kernel_rfl) (vo (by kernel_rfl)) (rD (by kernel_rfl)) hr_21) rfl hb30 rfl (by kernel_rfl) (by kernel_rfl) (by kernel_rfl) (by kernel_rfl) (by kernel_rfl) (by kernel_rfl) (by kernel_rfl) (by decide) (by kernel_rfl) wz (vB r_20) (by kernel_rfl) ([(n_2,some (.cells 1 [(vL Alert.enc l_1)])),(n_14,gB 1 eS s_11),(n_19,some (.cells 9 (Alert.v x_8)))]:Hp) (by kernel_rfl) (af ?_)
    obtain ⟨v_23,h_24,hc_15⟩:=bind_some hc_15
    refine jO (β:=Nm) (λ(n_25:Nm)=>([(1,(.ref n_2 0 0)),(5,(gV n_25 1 v_23)),(13,(vL Alert.enc l_1)),(14,(vI (l_1.length:Int))),(15,(vI (k_6:Int)))]:SL_)) (λ(n_25:Nm)=>([(n_2,some (.cells 1 [(vL Alert.enc l_1)])),(n_25,gB 1 eS v_23),(n_19,some (.cells 9 (Alert.v x_8)))]:Hp)) (λ_=>True) ?_ ?_
    ·rcases aj h_24 with⟨hc_26,h_24⟩|⟨hc_26,h_24⟩
     ·refine aB rfl hc_26 (au (aa (gV n_14 1 s_11) (aH fw rfl 0 rfl wz (aG 0 2 il ft sz9 ag9 rfl rfl (vS x_8.Id) rfl wz (eO (([x_8.Id]:List ByteArray).map eS) iL oM rfl rfl rfl rfl rfl wz ?_)))))
      obtain ⟨a_27,hz_28,h_24⟩:=bind_some h_24
      refine pF 0 il ft (i:=1) uE uE sz9 z9 rfl (by decide) by9 (by decide) (λ_=>rfl) rfl rfl rfl hz_28 wz (λn_29=>aa (gV n_29 1 a_27) (af ?_))
      obtain rfl:=ae h_24
      exact aW n_29 trivial rfl (aL rfl)
     ·refine aA rfl hc_26 (ax ?_)
      obtain rfl:=ae h_24
      exact aW n_14 trivial rfl (aL rfl)
    ·rintro n_25 _ sl_ H_ hp_ hq_
     refine aP _ hp_ hq_ (au (fQ (bL hD_9 hn_10) wz rfl (aa (vI ((k_6+1:Nat):Int)) (af ?_))))
     obtain rfl:=ae hc_15
     exact bg (k_6+1,l_7,v_23,n_25) ⟨hL_16,aS hD_9⟩ (ls_ _) rfl (aL rfl)
  ·rintro ⟨s_11,n_14⟩ ho_ sl_ H_ hp_ hq_
   subst ho_
   refine aP _ hp_ hq_ (ai (aa (gV n_14 1 s_11) (aa (gV n_14 1 s_11) (aa (vI 0) (af (kw 1 rfl (fe 2 1 rfl rfl (fe 5 1 rfl rfl (fe 29 1 rfl rfl ?_)))))))))
   obtain rfl:=ae hF
   exact ay (aM [(vL eS s_11),(vI 0)] ⟨rfl,⟨rfl,trivial⟩⟩)
theorem tC {atv_1:Int} {r:Int} (hF:gm atv_1=some r) :
  FnM Tryz.prog 32 [(vI atv_1)] [] (vI r) []:=by
 refine FnM.of_wH ⟨Tryz.prog,6,[],[]⟩ rfl Tryz.func32 rfl rfl (lb_ rfl) (by kernel_rfl) ?_
 unfold gm at hF
 refine ai (aa (vI 0) (af (ak (ai (aa (vI atv_1) ?_)))))
 obtain ⟨r_2,hr_3,hF⟩:=bind_some hF
 refine aF (sF hr_3) rfl hb57 rfl rfl rfl rfl wz (aa (vB (!r_2)) (af ?_))
 rcases aj hF with⟨hc_4,hF⟩|⟨hc_4,hF⟩
 ·refine aB rfl hc_4 (ai (aa (vI 1) (af ?_)))
  obtain rfl:=ae hF
  exact ay (aM [(vI 1)] ⟨rfl,trivial⟩)
 ·refine aA rfl hc_4 (ax (ai (aa (vI 0) (af ?_))))
  obtain rfl:=ae hF
  exact ay (aM [(vI 0)] ⟨rfl,trivial⟩)
theorem A7 {l_1:(List Alert)} {r:(List Int)} (hF:oV l_1=some r) :
  FnM Tryz.prog 33 [(vL Alert.enc l_1)] [] (vL eI r) []:=by
 refine FnM.of_wH ⟨Tryz.prog,55,[],[]⟩ rfl Tryz.func33 rfl rfl (lb_ rfl) (by kernel_rfl) ?_
 unfold oV at hF
 refine ai (aa .nil (af (ai (aa .nil (af (ak (ai (aa (vL Alert.enc l_1) (dB qi rfl wz (aa (vI 0) (af (qc (λn_8 => ?_)))))))))))))
 obtain ⟨o_13,hj_14,hF⟩:=bind_some hF
 obtain ⟨hn_6,hj_14⟩:=aZ hj_14
 refine iI (σ:=(List Int)) (N:=Nm) (λp=>(λ(s_7:List Int) (n_10:Nm)=>([(0,(vL Alert.enc l_1)),(3,(gV n_10 1 s_7))]:SL_)) p.1 p.2) (λp=>(λ(s_7:List Int) (n_10:Nm)=>([(n_10,gB 1 eI s_7)]:Hp)) p.1 p.2) (λ(k_2:Nat)=>(λp=>(λ(s_7:List Int) (n_10:Nm)=>([(0,(vL Alert.enc l_1)),(3,(gV n_10 1 s_7)),(11,(vL Alert.enc l_1)),(12,(vI (l_1.length:Int))),(13,(vI (k_2:Int)))]:SL_)) p.1 p.2)) (λk x s=>kV k x s) o_13 l_1 (([]:List Int),n_8) hj_14 rfl (aL rfl) ?_ ?_
 ·rintro ⟨k_2,l_3,s_7,n_10⟩ ⟨hL_12,hD_5⟩
  dsimp only at hL_12 hD_5
  cases l_3 with
  | nil =>
   obtain rfl:=ae hL_12
   refine ai (aa (vB (decide ((k_2:Int)<(l_1.length:Int)))) (af ?_))
   refine ak (aA rfl (drop_nil hD_5) (bn ?_))
   exact aW (s_7,n_10) rfl rfl (aL rfl)
  | cons x_4 l_3 =>
   obtain ⟨c_,hc_11,hL_12⟩:=bind_some hL_12
   refine ai (aa (vB (decide ((k_2:Int)<(l_1.length:Int)))) (af ?_))
   refine ak (aB rfl (bC hD_5) (ax ?_))
   unfold kV at hc_11
   refine ak (aN (ai (iV nM rfl rfl (bT hD_5) rfl wz (eP fo iW rfl (.d (.agg (Alert.enc x_4))) rfl wz (fF 0 (.inl rfl) z51 rfl wz (λn_15=>fV 0 il ft 1 fo rfl rfl (Alert.v x_4) rfl wz (af (au (aa (gV n_10 1 s_7) (aH xm rfl 5 rfl wz (aG 0 1 il ft sz3 ag3 rfl rfl (vI x_4.Until) rfl wz (eO (([x_4.Until]:List Int).map eI) pK xw rfl rfl rfl rfl rfl wz ?_))))))))))))
   obtain ⟨a_16,hz_17,hc_11⟩:=bind_some hc_11
   refine pF 0 il ft (i:=0) ET ET sz3 z3 rfl (by decide) by3 (by decide) (λ_=>rfl) rfl rfl rfl hz_17 wz (λn_18=>aa (gV n_18 1 a_16) (af (au (fQ (bL hD_5 hn_6) wz rfl (aa (vI ((k_2+1:Nat):Int)) (af ?_))))))
   obtain rfl:=ae hc_11
   exact bg (k_2+1,l_3,a_16,n_18) ⟨hL_12,aS hD_5⟩ (ls_ _) rfl (aL rfl)
 ·rintro ⟨s_7,n_10⟩ ho_ sl_ H_ hp_ hq_
  subst ho_
  refine aP _ hp_ hq_ (ak (ai (aa (vL Alert.enc l_1) (dB qi rfl wz (aa (vI 0) (af ?_))))))
  obtain ⟨o_27,hj_28,hF⟩:=bind_some hF
  obtain ⟨hn_23,hj_28⟩:=aZ hj_28
  refine dF (λ(s_24:List Int)=>[(3,(gV n_10 1 s_24))]) (λ(s_24:List Int)=>[(n_10,gB 1 eI s_24)]) (λ(k_19:Nat)=>(λ(s_24:List Int)=>[(0,(vL Alert.enc l_1)),(3,(gV n_10 1 s_24)),(23,(vL Alert.enc l_1)),(24,(vI (l_1.length:Int))),(25,(vI (k_19:Int)))])) (λk x s=>kZ l_1 k x s) o_27 l_1 s_7 hj_28 rfl (aL rfl) ?_ ?_
  ·rintro ⟨k_19,l_20,s_24⟩ ⟨hL_26,hD_22⟩
   dsimp only at hL_26 hD_22
   cases l_20 with
   | nil =>
    obtain rfl:=ae hL_26
    refine ai (aa (vB (decide ((k_19:Int)<(l_1.length:Int)))) (af ?_))
    refine ak (aA rfl (drop_nil hD_22) (bn ?_))
    exact aW (s_24) rfl rfl (aL rfl)
   | cons x_21 l_20 =>
    obtain ⟨c_,hc_25,hL_26⟩:=bind_some hL_26
    refine ai (aa (vB (decide ((k_19:Int)<(l_1.length:Int)))) (af ?_))
    refine ak (aB rfl (bC hD_22) (ax ?_))
    unfold kZ at hc_25
    refine ak (aN (ai (iV nM rfl rfl (bT hD_22) rfl wz (eP fo iW rfl (.d (.agg (Alert.enc x_21))) rfl wz (fF 0 (.inl rfl) z51 rfl wz (λn_29=>fV 0 il ft 1 fo rfl rfl (Alert.v x_21) rfl wz (af (ai (aH jl rfl 3 rfl wz (aG 0 1 il ft qG tK rfl rfl (vL eS x_21.Refs) rfl wz (dB pG rfl wz (aa (vI 0) (af ?_)))))))))))))
    obtain ⟨o_38,hj_39,hc_25⟩:=bind_some hc_25
    obtain ⟨hn_34,hj_39⟩:=aZ hj_39
    refine dF (λ(s_35:List Int)=>[(0,(vL Alert.enc l_1)),(3,(gV n_10 1 s_35)),(23,(vL Alert.enc l_1)),(24,(vI (l_1.length:Int))),(25,(vI (k_19:Int)))]) (λ(s_35:List Int)=>[(n_10,gB 1 eI s_35),(n_29,some (.cells 9 (Alert.v x_21)))]) (λ(k_30:Nat)=>(λ(s_35:List Int)=>[(0,(vL Alert.enc l_1)),(3,(gV n_10 1 s_35)),(7,(.ref n_29 0 0)),(23,(vL Alert.enc l_1)),(24,(vI (l_1.length:Int))),(25,(vI (k_19:Int))),(30,(vL eS x_21.Refs)),(31,(vI (x_21.Refs.length:Int))),(32,(vI (k_30:Int)))])) (λk x s=>jH l_1 x_21 k x s) o_38 x_21.Refs s_24 hj_39 rfl (aL rfl) ?_ ?_
    ·rintro ⟨k_30,l_31,s_35⟩ ⟨hL_37,hD_33⟩
     dsimp only at hL_37 hD_33
     cases l_31 with
     | nil =>
      obtain rfl:=ae hL_37
      refine ai (aa (vB (decide ((k_30:Int)<(x_21.Refs.length:Int)))) (af ?_))
      refine ak (aA rfl (drop_nil hD_33) (bn ?_))
      exact aW (s_35) rfl rfl (aL rfl)
     | cons x_32 l_31 =>
      obtain ⟨c_,hc_36,hL_37⟩:=bind_some hL_37
      refine ai (aa (vB (decide ((k_30:Int)<(x_21.Refs.length:Int)))) (af ?_))
      refine ak (aB rfl (bC hD_33) (ax ?_))
      unfold jH at hc_36
      refine ak (aN (ai (iV iL rfl rfl (bT hD_33) rfl wz (eP sz9 ag9 rfl (vS x_32) rfl wz (aa (vS x_32) (af (ai (aa (vL Alert.enc l_1) (aG 0 1 il ft fo iW rfl rfl (.d (.agg (Alert.enc x_21))) rfl wz (aa (vS x_32) ?_))))))))))
      obtain ⟨r_40,hr_41,hc_36⟩:=bind_some hc_36
      refine aF (qm hr_41) rfl hb28 rfl rfl rfl rfl wz (aa (vI r_40) (af (ai (aa (vI r_40) (aa (vB (decide (r_40>=0))) (af ?_))))))
      obtain ⟨v_42,h_43,hc_36⟩:=bind_some hc_36
      refine aO [(0,(vL Alert.enc l_1)),(3,(gV n_10 1 v_42)),(7,(.ref n_29 0 0)),(23,(vL Alert.enc l_1)),(24,(vI (l_1.length:Int))),(25,(vI (k_19:Int))),(30,(vL eS x_21.Refs)),(31,(vI (x_21.Refs.length:Int))),(32,(vI (k_30:Int)))] [(n_10,gB 1 eI v_42),(n_29,some (.cells 9 (Alert.v x_21)))] ?_ ?_
      ·rcases aj h_43 with⟨hc_44,h_43⟩|⟨hc_44,h_43⟩
       ·refine aB rfl hc_44 (fG (aa (gV n_10 1 s_35) (aa (vI r_40) (aa (gV n_10 1 s_35) (aa (vI r_40) ?_)))))
        obtain ⟨_,hi_45,h_43⟩:=bind_some h_43
        refine CQ pK rfl rfl (nD hi_45) (ko hi_45) wz ?_
        obtain ⟨e_46,hy_47,h_43⟩:=bind_some h_43
        refine mW 5 0 (.inr (by kernel_rfl)) (λ_ _ ag=>trivial) sz3 ag3 rfl rfl hy_47 (vI e_46) rfl wz (aH iw rfl 4 rfl wz (aG 7 1 (.inr (by kernel_rfl)) (λ_ _ ag=>⟨.inl ⟨rfl,rfl⟩,trivial⟩) sz3 ag3 rfl rfl (vI x_21.At) rfl wz (Fq (vI (Ay e_46 x_21.At)) rfl (.inl rfl) wz ?_)))
        obtain ⟨_,hi_48,h_43⟩:=bind_some h_43
        refine CQ pK rfl rfl (nD hi_48) (ko hi_48) wz ?_
        obtain ⟨e_49,hy_50,h_43⟩:=bind_some h_43
        refine l6 10 (.inr (by kernel_rfl)) (λ_ _ ag=>⟨.inr (.inr (by kernel_rfl)),⟨.inr (.inr (by kernel_rfl)),trivial⟩⟩) 0 sz3 rfl rfl hy_50 (Ay e_46 x_21.At) rfl wz (dQ (v':=(gV n_10 1 (s_35.set (0+(r_40).toNat) (Ay e_46 x_21.At)))) 3 rfl (dK (by simp)) (dQ (v':=(gV n_10 1 (s_35.set (0+(r_40).toNat) (Ay e_46 x_21.At)))) 42 rfl (dK (by simp)) (dQ (v':=(gV n_10 1 (s_35.set (0+(r_40).toNat) (Ay e_46 x_21.At)))) 44 rfl (dK (by simp)) (af ?_))))
        obtain rfl:=ae h_43
        exact cu
       ·refine aA rfl hc_44 (ax ?_)
        obtain rfl:=ae h_43
        exact cu
      ·rintro ⟨⟩ _ sl_ H_ hp_ hq_
       refine aP _ hp_ hq_ (au (fQ (bL hD_33 hn_34) wz rfl (aa (vI ((k_30+1:Nat):Int)) (af ?_))))
       obtain rfl:=ae hc_36
       exact bg (k_30+1,l_31,v_42) ⟨hL_37,aS hD_33⟩ (ls_ _) rfl (aL rfl)
    ·rintro s_35 ho_ sl_ H_ hp_ hq_
     subst ho_
     refine aP _ hp_ hq_ (au (fQ (bL hD_22 hn_23) wz rfl (aa (vI ((k_19+1:Nat):Int)) (af ?_))))
     obtain rfl:=ae hc_25
     exact bg (k_19+1,l_20,s_35) ⟨hL_26,aS hD_22⟩ (ls_ _) rfl (aL rfl)
  ·rintro s_24 ho_ sl_ H_ hp_ hq_
   subst ho_
   refine aP _ hp_ hq_ (ai (aa (gV n_10 1 s_24) (aa (gV n_10 1 s_24) (af (kw 0 rfl (fe 2 0 rfl rfl (fe 3 0 rfl rfl (fe 54 0 rfl rfl ?_))))))))
   obtain rfl:=ae hF
   exact ay (aM [(vL eI s_24)] ⟨rfl,trivial⟩)
theorem Bl {a_1:Alert} {endv_2:Int} {atv_3:Int} {r:Bool} (hF:pz a_1 endv_2 atv_3=some r) :
  FnM Tryz.prog 34 [(.d (.agg (Alert.enc a_1))),(vI endv_2),(vI atv_3)] [] (vB r) []:=by
 refine FnM.of_wH ⟨Tryz.prog,21,[],[]⟩ rfl Tryz.func34 rfl rfl (lb_ rfl) (by kernel_rfl) ?_
 unfold pz at hF
 refine ai (gP 0 (.inl rfl) (Alert.v a_1) rfl rfl wz (λn_4=>aa (vB false) (af (ak ?_))))
 obtain ⟨v_5,h_6,hF⟩:=bind_some hF
 refine aO [(6,(vB v_5))] [(n_4,some (.cells 9 (Alert.v a_1)))] ?_ ?_
 ·refine au (aH nQ rfl 2 rfl wz (aG 0 0 il ft sz3 ag3 rfl rfl (vI a_1.Kind) rfl wz (aa (vB (a_1.Kind != 3)) ?_)))
  rcases aj h_6 with⟨hc_7,h_6⟩|⟨hc_7,h_6⟩
  ·refine aC rfl hc_7 wz (aH iw rfl 4 rfl wa (aG 0 0 il ft sz3 ag3 rfl rfl (vI a_1.At) rfl wa (aI (vI atv_3) wa rfl (aI (vB (decide (a_1.At<=atv_3))) wa rfl (aa (vB (decide (a_1.At<=atv_3))) ?_)))))
   rcases aj h_6 with⟨hc_8,h_6⟩|⟨hc_8,h_6⟩
   ·refine aC rfl hc_8 wz (aI (vI atv_3) wa rfl (aI (vI endv_2) wa rfl (aI (vB (decide (atv_3<endv_2))) wa rfl (aa (vB (decide (atv_3<endv_2))) (aa (vB (decide (atv_3<endv_2))) (af ?_))))))
    obtain rfl:=ae h_6
    exact cu
   ·refine aC rfl hc_8 wz (ah (ah (ah (aa (vB false) (aa (vB false) (af ?_))))))
    obtain rfl:=ae h_6
    exact cu
  ·refine aC rfl hc_7 wz (ah (ah (ah (ah (aa (vB false) (aa (vB false) (ah (ah (ah (aa (vB false) (aa (vB false) (af ?_))))))))))))
   obtain rfl:=ae h_6
   exact cu
 ·rintro ⟨⟩ _ sl_ H_ hp_ hq_
  refine aP _ hp_ hq_ ?_
  obtain rfl:=ae hF
  exact ay (aM [(vB v_5)] ⟨rfl,trivial⟩)
theorem xN {l_1:(List Alert)} {atv_2:Int} {r:(List ByteArray)×Int} (hF:fU l_1 atv_2=some r) :
  FnM Tryz.prog 9 [(vL Alert.enc l_1),(vI atv_2)] [] (.tup [(vL eS r.1),(vI r.2)]) []:=by
 refine FnM.of_wH ⟨Tryz.prog,45,[],[]⟩ rfl Tryz.func9 rfl rfl (lb_ rfl) (by kernel_rfl) ?_
 unfold fU at hF
 refine ai (aa .nil (aa (vI 0) (af (ak (ai (aa (vL Alert.enc l_1) ?_))))))
 obtain ⟨r_3,hr_4,hF⟩:=bind_some hF
 refine aF (iO hr_4) rfl hb25 rfl rfl rfl rfl wz (aa (vI r_3) (af (ai (aa (vI r_3) (aa (vB (r_3 != 0)) (af ?_))))))
 rcases aj hF with⟨hc_5,hF⟩|⟨hc_5,hF⟩
 ·refine aB rfl hc_5 (ai (aa (vI r_3) (aa .nil (aa (vI r_3) (af ?_)))))
  obtain rfl:=ae hF
  exact ay (aM [.nil,(vI r_3)] ⟨rfl,⟨rfl,trivial⟩⟩)
 ·refine aA rfl hc_5 (ax (ak (ai (aa (vI atv_2) ?_))))
  obtain ⟨r_6,hr_7,hF⟩:=bind_some hF
  refine aF (tC hr_7) rfl hb32 rfl rfl rfl rfl wz (aa (vI r_6) (af (ai (aa (vI r_6) (aa (vB (r_6 != 0)) (af ?_))))))
  rcases aj hF with⟨hc_8,hF⟩|⟨hc_8,hF⟩
  ·refine aB rfl hc_8 (ai (aa (vI r_6) (aa .nil (aa (vI r_6) (af ?_)))))
   obtain rfl:=ae hF
   exact ay (aM [.nil,(vI r_6)] ⟨rfl,⟨rfl,trivial⟩⟩)
  ·refine aA rfl hc_8 (ax (ai (aa (vL Alert.enc l_1) ?_)))
   obtain ⟨r_9,hr_10,hF⟩:=bind_some hF
   refine aF (A7 hr_10) rfl hb33 rfl rfl rfl rfl wz (aa (vL eI r_9) (af (ai (aa .nil (af (ak (ai (aa (vL Alert.enc l_1) (dB qi rfl wz (aa (vI 0) (af (qc (λn_17 => ?_)))))))))))))
   obtain ⟨o_22,hj_23,hF⟩:=bind_some hF
   obtain ⟨hn_15,hj_23⟩:=aZ hj_23
   refine iI (σ:=(List ByteArray)) (N:=Nm) (λp=>(λ(s_16:List ByteArray) (n_19:Nm)=>([(9,(gV n_19 1 s_16))]:SL_)) p.1 p.2) (λp=>(λ(s_16:List ByteArray) (n_19:Nm)=>([(n_19,gB 1 eS s_16)]:Hp)) p.1 p.2) (λ(k_11:Nat)=>(λp=>(λ(s_16:List ByteArray) (n_19:Nm)=>([(1,(vI atv_2)),(8,(vL eI r_9)),(9,(gV n_19 1 s_16)),(24,(vL Alert.enc l_1)),(25,(vI (l_1.length:Int))),(26,(vI (k_11:Int)))]:SL_)) p.1 p.2)) (λk x s=>iY r_9 atv_2 k x s) o_22 l_1 (([]:List ByteArray),n_17) hj_23 rfl (aL rfl) ?_ ?_
   ·rintro ⟨k_11,l_12,s_16,n_19⟩ ⟨hL_21,hD_14⟩
    dsimp only at hL_21 hD_14
    cases l_12 with
    | nil =>
     obtain rfl:=ae hL_21
     refine ai (aa (vB (decide ((k_11:Int)<(l_1.length:Int)))) (af ?_))
     refine ak (aA rfl (drop_nil hD_14) (bn ?_))
     exact aW (s_16,n_19) rfl rfl (aL rfl)
    | cons x_13 l_12 =>
     obtain ⟨c_,hc_20,hL_21⟩:=bind_some hL_21
     refine ai (aa (vB (decide ((k_11:Int)<(l_1.length:Int)))) (af ?_))
     refine ak (aB rfl (bC hD_14) (ax ?_))
     unfold iY at hc_20
     refine ak (aN (ai (aa (vI (k_11:Int)) (iV nM rfl rfl (bT hD_14) rfl wz (eP fo iW rfl (.d (.agg (Alert.enc x_13))) rfl wz (fF 0 (.inl rfl) z51 rfl wz (λn_24=>aa (vI (k_11:Int)) (fV 0 il ft 1 fo rfl rfl (Alert.v x_13) rfl wz (af (ak (fG (aG 0 1 (.inr (by kernel_rfl)) (λ_ _ ag=>trivial) fo iW rfl rfl (.d (.agg (Alert.enc x_13))) rfl wz (aa (vL eI r_9) (aa (vI (k_11:Int)) ?_))))))))))))))
     obtain ⟨y_25,hy_26,hc_20⟩:=bind_some hc_20
     refine iV pK rfl rfl hy_26 rfl wz (eP sz3 ag3 rfl (vI y_25) rfl wz (aa (vI atv_2) ?_))
     obtain ⟨r_27,hr_28,hc_20⟩:=bind_some hc_20
     refine aF (Bl hr_28) rfl hb34 rfl rfl rfl rfl wz (af ?_)
     obtain ⟨v_29,h_30,hc_20⟩:=bind_some hc_20
     refine jO (β:=Nm) (λ(n_31:Nm)=>([(1,(vI atv_2)),(8,(vL eI r_9)),(9,(gV n_31 1 v_29)),(24,(vL Alert.enc l_1)),(25,(vI (l_1.length:Int))),(26,(vI (k_11:Int)))]:SL_)) (λ(n_31:Nm)=>([(n_31,gB 1 eS v_29),(n_24,some (.cells 9 (Alert.v x_13)))]:Hp)) (λ_=>True) ?_ ?_
     ·rcases aj h_30 with⟨hc_32,h_30⟩|⟨hc_32,h_30⟩
      ·refine aB rfl hc_32 (au (aa (gV n_19 1 s_16) (aH fw rfl 0 rfl wz (aG 0 1 il ft sz9 ag9 rfl rfl (vS x_13.Id) rfl wz (eO (([x_13.Id]:List ByteArray).map eS) iL oM rfl rfl rfl rfl rfl wz ?_)))))
       obtain ⟨a_33,hz_34,h_30⟩:=bind_some h_30
       refine pF 0 il ft (i:=0) uE uE sz9 z9 rfl (by decide) by9 (by decide) (λ_=>rfl) rfl rfl rfl hz_34 wz (λn_35=>aa (gV n_35 1 a_33) (af ?_))
       obtain rfl:=ae h_30
       exact aW n_35 trivial rfl (aL rfl)
      ·refine aA rfl hc_32 (ax ?_)
       obtain rfl:=ae h_30
       exact aW n_19 trivial rfl (aL rfl)
     ·rintro n_31 _ sl_ H_ hp_ hq_
      refine aP _ hp_ hq_ (au (fQ (bL hD_14 hn_15) wz rfl (aa (vI ((k_11+1:Nat):Int)) (af ?_))))
      obtain rfl:=ae hc_20
      exact bg (k_11+1,l_12,v_29,n_31) ⟨hL_21,aS hD_14⟩ (ls_ _) rfl (aL rfl)
   ·rintro ⟨s_16,n_19⟩ ho_ sl_ H_ hp_ hq_
    subst ho_
    refine aP _ hp_ hq_ (ai (aa (gV n_19 1 s_16) (aa (gV n_19 1 s_16) (aa (vI 0) (af (kw 0 rfl (fe 4 0 rfl rfl (fe 9 0 rfl rfl (fe 44 0 rfl rfl ?_)))))))))
    obtain rfl:=ae hF
    exact ay (aM [(vL eS s_16),(vI 0)] ⟨rfl,⟨rfl,trivial⟩⟩)
theorem kI {n_1:Int} {low_2:Int} {high_3:Int} {r:Bool} (hF:lW n_1 low_2 high_3=some r) :
  FnM Tryz.prog 59 [(vI n_1),(vI low_2),(vI high_3)] [] (vB r) []:=by
 refine FnM.of_wH ⟨Tryz.prog,15,[],[]⟩ rfl Tryz.func59 rfl rfl (lb_ rfl) (by kernel_rfl) ?_
 unfold lW at hF
 refine ai (aa (vB false) (af (ak ?_)))
 obtain ⟨v_4,h_5,hF⟩:=bind_some hF
 refine aO [(6,(vB v_4))] [] ?_ ?_
 ·refine au (aa (vI low_2) (aa (vI n_1) (aa (vB (decide (low_2<=n_1))) ?_)))
  rcases aj h_5 with⟨hc_6,h_5⟩|⟨hc_6,h_5⟩
  ·refine aC rfl hc_6 wz (aI (vI n_1) wa rfl (aI (vI high_3) wa rfl (aI (vB (decide (n_1<=high_3))) wa rfl (aa (vB (decide (n_1<=high_3))) (aa (vB (decide (n_1<=high_3))) (af ?_))))))
   obtain rfl:=ae h_5
   exact cu
  ·refine aC rfl hc_6 wz (ah (ah (ah (aa (vB false) (aa (vB false) (af ?_))))))
   obtain rfl:=ae h_5
   exact cu
 ·rintro ⟨⟩ _ sl_ H_ hp_ hq_
  refine aP _ hp_ hq_ ?_
  obtain rfl:=ae hF
  exact ay (aM [(vB v_4)] ⟨rfl,trivial⟩)
theorem lM {s_1:ByteArray} {c_2:Int} {r:Int} (hF:dR s_1 c_2=some r) :
  FnM Tryz.prog 130 [(vS s_1),(.d (.int .u8 c_2))] [] (vI r) []:=by
 refine FnM.of_wH ⟨Tryz.prog,8,[],[]⟩ rfl Tryz.func130 rfl rfl (lb_ rfl) (by kernel_rfl) ?_
 unfold dR at hF
 refine ai (aa (vI 0) (af (ai (aa (vS s_1) (aa (.d (.int .u8 c_2)) (h_ext (ext_ixB (f:=138) Tryz.func138 rfl rfl (by kernel_rfl) (by kernel_rfl) _ _) rfl nb138 rfl wz (aa (vI (ixB s_1 c_2)) (af ?_))))))))
 obtain rfl:=ae hF
 exact ay (aM [(vI (ixB s_1 c_2))] ⟨rfl,trivial⟩)
theorem tX {s_1:ByteArray} {c_2:Int} {r:Int} (hF:strings_IndexByte s_1 c_2=some r) :
  FnM Tryz.prog 113 [(vS s_1),(.d (.int .u8 c_2))] [] (vI r) []:=by
 refine FnM.of_wH ⟨Tryz.prog,8,[],[]⟩ rfl Tryz.func113 rfl rfl (lb_ rfl) (by kernel_rfl) ?_
 unfold strings_IndexByte at hF
 refine ai (aa (vI 0) (af (ai (aa (vS s_1) (aa (.d (.int .u8 c_2)) ?_)))))
 obtain ⟨r_3,hr_4,hF⟩:=bind_some hF
 refine aF (lM hr_4) rfl hb130 rfl rfl rfl rfl wz (aa (vI r_3) (af ?_))
 obtain rfl:=ae hF
 exact ay (aM [(vI r_3)] ⟨rfl,trivial⟩)
theorem yx {s_1:ByteArray} {somev_2:ByteArray} {r:Bool} (hF:qx s_1 somev_2=some r) :
  FnM Tryz.prog 88 [(vS s_1),(vS somev_2)] [] (vB r) []:=by
 refine FnM.of_wH ⟨Tryz.prog,18,[],[]⟩ rfl Tryz.func88 rfl rfl (lb_ rfl) (by kernel_rfl) ?_
 unfold qx at hF
 refine ai (aa (vB false) (af (ak (ai (aa (vS s_1) (nX un9 rfl wz (aa (vI 0) (af ?_))))))))
 obtain ⟨o_11,hj_12,hF⟩:=bind_some hF
 obtain ⟨hn_7,hj_12⟩:=aZ hj_12
 refine dF (λ(s_8:Unit)=>[]) (λ(s_8:Unit)=>[]) (λ(k_3:Nat)=>(λ(s_8:Unit)=>[(0,(vS s_1)),(1,(vS somev_2)),(7,(vI (s_1.size:Int))),(8,(vI (k_3:Int)))])) (λk x s=>lJ s_1 somev_2 k x s) o_11 (List.range ((s_1.size:Int)).toNat) () hj_12 rfl (aL rfl) ?_ ?_
 ·rintro ⟨k_3,l_4,s_8⟩ ⟨hL_10,hD_6⟩
  dsimp only at hL_10 hD_6
  cases l_4 with
  | nil =>
   obtain rfl:=ae hL_10
   refine ai (aa (vB (decide ((k_3:Int)<(s_1.size:Int)))) (af ?_))
   refine ak (aA rfl (qC hD_6) (bn ?_))
   exact aW (s_8) rfl rfl (aL rfl)
  | cons x_5 l_4 =>
   obtain ⟨c_,hc_9,hL_10⟩:=bind_some hL_10
   refine ai (aa (vB (decide ((k_3:Int)<(s_1.size:Int)))) (af ?_))
   refine ak (aB rfl (o5 hD_6) (ax ?_))
   unfold lJ at hc_9
   refine ak (aN (ai (aa (vI (k_3:Int)) (aa (vI (k_3:Int)) (af (ai (aa (vS somev_2) (aa (vS s_1) (aa (vI (k_3:Int)) ?_)))))))))
   obtain ⟨b_13,hy_14,hc_9⟩:=bind_some hc_9
   refine qa un9 rfl rfl hy_14 wz ?_
   obtain ⟨r_15,hr_16,hc_9⟩:=bind_some hc_9
   refine aF (tX hr_16) rfl hb113 rfl rfl rfl rfl wz (aa (vB (decide (r_15<0))) (af ?_))
   rcases aj hc_9 with⟨hc_17,hc_9⟩|⟨hc_17,hc_9⟩
   ·refine aB rfl hc_17 (ai (aa (vB false) (af ?_)))
    obtain rfl:=ae hc_9
    obtain rfl:=ae hL_10
    obtain rfl:=ae hF
    exact ay (aM [(vB false)] ⟨rfl,trivial⟩)
   ·refine aA rfl hc_17 (ax (au (fQ (qP hD_6 hn_7) wz rfl (aa (vI ((k_3+1:Nat):Int)) (af ?_)))))
    obtain rfl:=ae hc_9
    exact bg (k_3+1,l_4,()) ⟨hL_10,aS hD_6⟩ (ls_ _) rfl (aL rfl)
 ·rintro s_8 ho_ sl_ H_ hp_ hq_
  subst ho_
  refine aP _ hp_ hq_ (ai (aa (vB true) (af ?_)))
  obtain rfl:=ae hF
  exact ay (aM [(vB true)] ⟨rfl,trivial⟩)
theorem vg {s_1:ByteArray} {r:Bool} (hF:rG s_1=some r) :
  FnM Tryz.prog 58 [(vS s_1)] [] (vB r) []:=by
 refine FnM.of_wH ⟨Tryz.prog,15,[],[]⟩ rfl Tryz.func58 rfl rfl (lb_ rfl) (by kernel_rfl) ?_
 unfold rG at hF
 refine ai (aa (vB false) (af (ak ?_)))
 obtain ⟨v_2,h_3,hF⟩:=bind_some hF
 refine aO [(2,(vB v_2))] [] ?_ ?_
 ·refine au (aa (vS s_1) (nX un9 rfl wz ?_))
  obtain ⟨r_4,hr_5,h_3⟩:=bind_some h_3
  refine aF (kI hr_5) rfl Dq rfl rfl rfl rfl wz ?_
  rcases aj h_3 with⟨hc_6,h_3⟩|⟨hc_6,h_3⟩
  ·refine aC rfl hc_6 wz (aI (vS s_1) wa rfl ?_)
   obtain ⟨y_7,hy_8,h_3⟩:=bind_some h_3
   refine tL un9 rfl rfl hy_8 wa ?_
   obtain ⟨r_9,hr_10,h_3⟩:=bind_some h_3
   refine aF (yx hr_10) rfl hb88 rfl rfl rfl rfl wa (aa (vB r_9) ?_)
   rcases aj h_3 with⟨hc_11,h_3⟩|⟨hc_11,h_3⟩
   ·refine aC rfl hc_11 wz (aI (vS s_1) wa rfl ?_)
    obtain ⟨r_12,hr_13,h_3⟩:=bind_some h_3
    refine aF (yx hr_13) rfl hb88 rfl rfl rfl rfl wa (aa (vB r_12) (aa (vB r_12) (af ?_)))
    obtain rfl:=ae h_3
    exact cu
   ·refine aC rfl hc_11 wz (ah (ah (aa (vB false) (aa (vB false) (af ?_)))))
    obtain rfl:=ae h_3
    exact cu
  ·refine aC rfl hc_6 wz (ah (ah (ah (aa (vB false) (aa (vB false) (ah (ah (aa (vB false) (aa (vB false) (af ?_))))))))))
   obtain rfl:=ae h_3
   exact cu
 ·rintro ⟨⟩ _ sl_ H_ hp_ hq_
  refine aP _ hp_ hq_ ?_
  obtain rfl:=ae hF
  exact ay (aM [(vB v_2)] ⟨rfl,trivial⟩)
theorem uO {atv_1:Int} {r:Bool} (hF:jV atv_1=some r) :
  FnM Tryz.prog 37 [(vI atv_1)] [] (vB r) []:=by
 refine FnM.of_wH ⟨Tryz.prog,5,[],[]⟩ rfl Tryz.func37 rfl rfl (lb_ rfl) (by kernel_rfl) ?_
 unfold jV at hF
 refine ai (aa (vB false) (af (ai (aa (vI atv_1) ?_))))
 obtain ⟨r_2,hr_3,hF⟩:=bind_some hF
 refine aF (kI hr_3) rfl Dq rfl rfl rfl rfl wz (aa (vB r_2) (af ?_))
 obtain rfl:=ae hF
 exact ay (aM [(vB r_2)] ⟨rfl,trivial⟩)
theorem xn {r_1:Rect} {r:Int} (hF:lg r_1=some r) :
  FnM Tryz.prog 60 [(.d (.agg (Rect.enc r_1)))] [] (vI r) []:=by
 refine FnM.of_wH ⟨Tryz.prog,31,[],[]⟩ rfl Tryz.func60 rfl rfl (lb_ rfl) (by kernel_rfl) ?_
 unfold lg at hF
 refine ai (gP 0 (.inl rfl) (Rect.v r_1) rfl rfl wz (λn_2=>aa (vI 0) (af (ak (ak ?_)))))
 obtain ⟨v_3,h_4,hF⟩:=bind_some hF
 refine aO [(30,(vB v_3))] [(n_2,some (.cells 4 (Rect.v r_1)))] ?_ ?_
 ·refine au (aH uX rfl 0 rfl wz (aG 0 0 il ft sz3 ag3 rfl rfl (vI r_1.X) rfl wz ?_))
  obtain ⟨r_5,hr_6,h_4⟩:=bind_some h_4
  refine aF (kI hr_6) rfl Dq rfl rfl rfl rfl wz (aa (vB (!r_5)) ?_)
  rcases aj h_4 with⟨hc_7,h_4⟩|⟨hc_7,h_4⟩
  ·refine aC rfl hc_7 wz (ah (ah (ah (ah (aa (vB true) (aa (vB true) (ah (ah (ah (ah (ah (ah (ah (aa (vB true) (aa (vB true) (ah (ah (ah (ah (ah (ah (ah (aa (vB true) ?_)))))))))))))))))))))))
   refine af ?_
   obtain rfl:=ae h_4
   exact cu
  ·refine aC rfl hc_7 wz (aH ve rfl 1 rfl wa (aG 0 0 il ft sz3 ag3 rfl rfl (vI r_1.Y) rfl wa ?_))
   obtain ⟨r_8,hr_9,h_4⟩:=bind_some h_4
   refine aF (kI hr_9) rfl Dq rfl rfl rfl rfl wa (aI (vB (!r_8)) wa rfl (aa (vB (!r_8)) ?_))
   rcases aj h_4 with⟨hc_10,h_4⟩|⟨hc_10,h_4⟩
   ·refine aC rfl hc_10 wz (ah (ah (ah (ah (ah (ah (ah (aa (vB true) (aa (vB true) (ah (ah (ah (ah (ah (ah (ah (aa (vB true) (af ?_))))))))))))))))))
    obtain rfl:=ae h_4
    exact cu
   ·refine aC rfl hc_10 wz (aH CK rfl 2 rfl wa (aG 0 0 il ft sz3 ag3 rfl rfl (vI r_1.W) rfl wa (aH uX rfl 0 rfl wa (aG 0 0 il ft sz3 ag3 rfl rfl (vI r_1.X) rfl wa (aI (vI (w64 (100000-r_1.X))) wa rfl ?_)))))
    obtain ⟨r_11,hr_12,h_4⟩:=bind_some h_4
    refine aF (kI hr_12) rfl Dq rfl rfl rfl rfl wa (aI (vB (!r_11)) wa rfl (aa (vB (!r_11)) ?_))
    rcases aj h_4 with⟨hc_13,h_4⟩|⟨hc_13,h_4⟩
    ·refine aC rfl hc_13 wz (ah (ah (ah (ah (ah (ah (ah (aa (vB true) (af ?_)))))))))
     obtain rfl:=ae h_4
     exact cu
    ·refine aC rfl hc_13 wz (aH AC rfl 3 rfl wa (aG 0 0 il ft sz3 ag3 rfl rfl (vI r_1.H) rfl wa (aH ve rfl 1 rfl wa (aG 0 0 il ft sz3 ag3 rfl rfl (vI r_1.Y) rfl wa (aI (vI (w64 (100000-r_1.Y))) wa rfl ?_)))))
     obtain ⟨r_14,hr_15,h_4⟩:=bind_some h_4
     refine aF (kI hr_15) rfl Dq rfl rfl rfl rfl wa (aI (vB (!r_14)) wa rfl (aa (vB (!r_14)) (af ?_)))
     obtain rfl:=ae h_4
     exact cu
 ·rintro ⟨⟩ _ sl_ H_ hp_ hq_
  refine aP _ hp_ hq_ ?_
  rcases aj hF with⟨hc_16,hF⟩|⟨hc_16,hF⟩
  ·refine aB rfl hc_16 (ai (aa (vI 1) (af ?_)))
   obtain rfl:=ae hF
   exact ay (aM [(vI 1)] ⟨rfl,trivial⟩)
  ·refine aA rfl hc_16 (ax (ai (aa (vI 0) (af ?_))))
   obtain rfl:=ae hF
   exact ay (aM [(vI 0)] ⟨rfl,trivial⟩)
theorem AB {r_1:Int} {r:Bool} (hF:nJ r_1=some r) :
  FnM Tryz.prog 91 [(.d (.int .i32 r_1))] [] (vB r) []:=by
 refine FnM.of_wH ⟨Tryz.prog,9,[],[]⟩ rfl Tryz.func91 rfl rfl (lb_ rfl) (by kernel_rfl) ?_
 unfold nJ at hF
 refine ai (aa (vB false) (af (ak ?_)))
 obtain ⟨v_2,h_3,hF⟩:=bind_some hF
 refine aO [(2,(vB v_2))] [] ?_ ?_
 ·refine au (aa (.d (.int .i32 r_1)) (aa (vB (decide (r_1<32))) ?_))
  rcases aj h_3 with⟨hc_4,h_3⟩|⟨hc_4,h_3⟩
  ·refine aC rfl hc_4 wz (ah (ah (aa (vB true) (aa (vB true) (af ?_)))))
   obtain rfl:=ae h_3
   exact cu
  ·refine aC rfl hc_4 wz (aI (.d (.int .i32 r_1)) wa rfl (aI (vB (r_1==127)) wa rfl (aa (vB (r_1==127)) (aa (vB (r_1==127)) (af ?_)))))
   obtain rfl:=ae h_3
   exact cu
 ·rintro ⟨⟩ _ sl_ H_ hp_ hq_
  refine aP _ hp_ hq_ ?_
  obtain rfl:=ae hF
  exact ay (aM [(vB v_2)] ⟨rfl,trivial⟩)
theorem nO {x:ByteArray} {r:Bool} (hF:ic x=some r) :
  FnM Tryz.prog 90 [(.d (.str x)),(.fn 91 [])] [] (.d (.bool r)) [] :=
 Bc rfl (λa b h=>AB h) hb91 (λs p w eg hp=>Tryz.strings_ContainsFunc_grows 91 #[] eg p s w hp) hF
theorem Du {s_1:ByteArray} {r:Bool} (hF:oz s_1=some r) :
  FnM Tryz.prog 61 [(vS s_1)] [] (vB r) []:=by
 refine FnM.of_wH ⟨Tryz.prog,21,[],[]⟩ rfl Tryz.func61 rfl rfl (lb_ rfl) (by kernel_rfl) ?_
 unfold oz at hF
 refine ai (aa (vB false) (af (ak ?_)))
 obtain ⟨v_2,h_3,hF⟩:=bind_some hF
 refine aO [(2,(vB v_2))] [] ?_ ?_
 ·refine au (aa (vS s_1) ?_)
  obtain ⟨r_4,hr_5,h_3⟩:=bind_some h_3
  refine aF (jQ hr_5) rfl hb89 rfl rfl rfl rfl wz ?_
  rcases aj h_3 with⟨hc_6,h_3⟩|⟨hc_6,h_3⟩
  ·refine aC rfl hc_6 wz (aI (vS s_1) wa rfl ?_)
   obtain ⟨r_7,hr_8,h_3⟩:=bind_some h_3
   refine aF (nO hr_8) rfl hb90 rfl rfl rfl rfl wa (aI (vB (!r_7)) wa rfl (aa (vB (!r_7)) ?_))
   rcases aj h_3 with⟨hc_9,h_3⟩|⟨hc_9,h_3⟩
   ·refine aC rfl hc_9 wz (aI (vS s_1) wa rfl ?_)
    obtain ⟨r_10,hr_11,h_3⟩:=bind_some h_3
    refine aF (sG hr_11) rfl hb92 rfl rfl rfl rfl wa (aI (vS s_1) wa rfl (aI (vB (sEq r_10 s_1)) wa rfl (aa (vB (sEq r_10 s_1)) ?_)))
    rcases aj h_3 with⟨hc_12,h_3⟩|⟨hc_12,h_3⟩
    ·refine aC rfl hc_12 wz (aI (vS s_1) wa rfl ?_)
     obtain ⟨r_13,hr_14,h_3⟩:=bind_some h_3
     refine aF (og hr_14) rfl hb93 rfl rfl rfl rfl wa (aI (vB (!r_13)) wa rfl (aa (vB (!r_13)) (aa (vB (!r_13)) (af ?_))))
     obtain rfl:=ae h_3
     exact cu
    ·refine aC rfl hc_12 wz (ah (ah (ah (aa (vB false) (aa (vB false) (af ?_))))))
     obtain rfl:=ae h_3
     exact cu
   ·refine aC rfl hc_9 wz (ah (ah (ah (ah (aa (vB false) (aa (vB false) (ah (ah (ah (aa (vB false) (aa (vB false) (af ?_))))))))))))
    obtain rfl:=ae h_3
    exact cu
  ·refine aC rfl hc_6 wz (ah (ah (ah (aa (vB false) (aa (vB false) (ah (ah (ah (ah (aa (vB false) (aa (vB false) (ah (ah (ah (aa (vB false) (aa (vB false) (af ?_)))))))))))))))))
   obtain rfl:=ae h_3
   exact cu
 ·rintro ⟨⟩ _ sl_ H_ hp_ hq_
  refine aP _ hp_ hq_ ?_
  obtain rfl:=ae hF
  exact ay (aM [(vB v_2)] ⟨rfl,trivial⟩)
end Go.Proofs.YtekmkepojbhafaeGreatDoor.Law

