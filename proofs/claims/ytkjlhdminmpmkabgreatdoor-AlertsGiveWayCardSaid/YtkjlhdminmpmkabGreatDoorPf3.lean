/-
 The machine computes these plain functions (written by a program of ours).
-/
import Derived.Test.YtkjlhdminmpmkabGreatDoorFacts
import Derived.Test.YtkjlhdminmpmkabGreatDoorDefs
import Derived.Test.YtkjlhdminmpmkabGreatDoorPf2
import Derived.Test.YtkjlhdminmpmkabGreatDoorShelf
open Go Go.Eng Go.Proofs
namespace Go.Proofs.YtkjlhdminmpmkabGreatDoor.Law
set_option maxRecDepth 100000
set_option linter.unusedVariables false
set_option maxHeartbeats 1000000
theorem F7 {l_1:(List Alert)} {r:(List Int)} (hF:sS l_1=some r) :
  FnM Tryz.prog 31 [(vL Alert.enc l_1)] [] (vL eI r) []:=by
 refine FnM.of_wH ⟨Tryz.prog,55,[],[]⟩ rfl Tryz.func31 rfl rfl (lb_ rfl) (by kernel_rfl) ?_
 unfold sS at hF
 refine ai (aa .nil (ah (ai (aa .nil (ah (ak (ai (aa (vL Alert.enc l_1) (bG tq rfl wz (aa (vI 0) (ah (l6 (λn_8 => ?_)))))))))))))
 obtain ⟨o_13,hj_14,hF⟩:=bind_some hF
 obtain ⟨hn_6,hj_14⟩:=aX hj_14
 refine ic (σ:=(List Int)) (N:=Nm) (λp=>(λ(s_7:List Int) (n_10:Nm)=>([(0,(vL Alert.enc l_1)),(3,(gV n_10 1 s_7))]:SL_)) p.1 p.2) (λp=>(λ(s_7:List Int) (n_10:Nm)=>([(n_10,gB 1 eI s_7)]:Hp)) p.1 p.2) (λ(k_2:Nat)=>(λp=>(λ(s_7:List Int) (n_10:Nm)=>([(0,(vL Alert.enc l_1)),(3,(gV n_10 1 s_7)),(11,(vL Alert.enc l_1)),(12,(vI (l_1.length:Int))),(13,(vI (k_2:Int)))]:SL_)) p.1 p.2)) (λk x s=>nY k x s) o_13 l_1 (([]:List Int),n_8) hj_14 rfl (aH rfl) ?_ ?_
 ·rintro ⟨k_2,l_3,s_7,n_10⟩ ⟨hL_12,hD_5⟩
  dsimp only at hL_12 hD_5
  cases l_3 with
  | nil =>
   obtain rfl:=ae hL_12
   refine ai (aa (vB (decide ((k_2:Int)<(l_1.length:Int)))) (ah ?_))
   refine ak (ax rfl (drop_nil hD_5) (aW ?_))
   exact aS (s_7,n_10) rfl rfl (aH rfl)
  | cons x_4 l_3 =>
   obtain ⟨c_,hc_11,hL_12⟩:=bind_some hL_12
   refine ai (aa (vB (decide ((k_2:Int)<(l_1.length:Int)))) (ah ?_))
   refine ak (ay rfl (aZ hD_5) (av ?_))
   unfold nY at hc_11
   refine ak (aL (ai (dY mo rfl rfl (bz hD_5) rfl wz (bI eO jo rfl (.d (.agg (Alert.enc x_4))) rfl wz (dC 0 (.inl rfl) z32 rfl wz (λn_15=>fB 0 il ft 1 eO rfl rfl (Alert.v x_4) rfl wz (ah (au (aa (gV n_10 1 s_7) (aG Ah rfl 5 rfl wz (aC 0 1 il ft sz3 ag3 rfl rfl (vI x_4.Until) rfl wz (eT (([x_4.Until]:List Int).map eI) ni BG rfl rfl rfl rfl rfl wz ?_))))))))))))
   obtain ⟨a_16,hz_17,hc_11⟩:=bind_some hc_11
   refine jB 0 il ft (i:=0) EK EK sz3 z3 rfl (by decide) by3 (by decide) (λ_=>rfl) rfl rfl rfl hz_17 wz (λn_18=>aa (gV n_18 1 a_16) (ah (au (dZ (bn hD_5 hn_6) wz rfl (aa (vI ((k_2+1:Nat):Int)) (ah ?_))))))
   obtain rfl:=ae hc_11
   exact aU (k_2+1,l_3,a_16,n_18) ⟨hL_12,aR hD_5⟩ (ls_ _) rfl (aH rfl)
 ·rintro ⟨s_7,n_10⟩ ho_ sl_ H_ hp_ hq_
  subst ho_
  refine aN _ hp_ hq_ (ak (ai (aa (vL Alert.enc l_1) (bG tq rfl wz (aa (vI 0) (ah ?_))))))
  obtain ⟨o_27,hj_28,hF⟩:=bind_some hF
  obtain ⟨hn_23,hj_28⟩:=aX hj_28
  refine bP (λ(s_24:List Int)=>[(3,(gV n_10 1 s_24))]) (λ(s_24:List Int)=>[(n_10,gB 1 eI s_24)]) (λ(k_19:Nat)=>(λ(s_24:List Int)=>[(0,(vL Alert.enc l_1)),(3,(gV n_10 1 s_24)),(23,(vL Alert.enc l_1)),(24,(vI (l_1.length:Int))),(25,(vI (k_19:Int)))])) (λk x s=>nV l_1 k x s) o_27 l_1 s_7 hj_28 rfl (aH rfl) ?_ ?_
  ·rintro ⟨k_19,l_20,s_24⟩ ⟨hL_26,hD_22⟩
   dsimp only at hL_26 hD_22
   cases l_20 with
   | nil =>
    obtain rfl:=ae hL_26
    refine ai (aa (vB (decide ((k_19:Int)<(l_1.length:Int)))) (ah ?_))
    refine ak (ax rfl (drop_nil hD_22) (aW ?_))
    exact aS (s_24) rfl rfl (aH rfl)
   | cons x_21 l_20 =>
    obtain ⟨c_,hc_25,hL_26⟩:=bind_some hL_26
    refine ai (aa (vB (decide ((k_19:Int)<(l_1.length:Int)))) (ah ?_))
    refine ak (ay rfl (aZ hD_22) (av ?_))
    unfold nV at hc_25
    refine ak (aL (ai (dY mo rfl rfl (bz hD_22) rfl wz (bI eO jo rfl (.d (.agg (Alert.enc x_21))) rfl wz (dC 0 (.inl rfl) z32 rfl wz (λn_29=>fB 0 il ft 1 eO rfl rfl (Alert.v x_21) rfl wz (ah (ai (aG nJ rfl 3 rfl wz (aC 0 1 il ft xK zW rfl rfl (vL eS x_21.Refs) rfl wz (bG uT rfl wz (aa (vI 0) (ah ?_)))))))))))))
    obtain ⟨o_38,hj_39,hc_25⟩:=bind_some hc_25
    obtain ⟨hn_34,hj_39⟩:=aX hj_39
    refine bP (λ(s_35:List Int)=>[(0,(vL Alert.enc l_1)),(3,(gV n_10 1 s_35)),(23,(vL Alert.enc l_1)),(24,(vI (l_1.length:Int))),(25,(vI (k_19:Int)))]) (λ(s_35:List Int)=>[(n_10,gB 1 eI s_35),(n_29,some (.cells 9 (Alert.v x_21)))]) (λ(k_30:Nat)=>(λ(s_35:List Int)=>[(0,(vL Alert.enc l_1)),(3,(gV n_10 1 s_35)),(7,(.ref n_29 0 0)),(23,(vL Alert.enc l_1)),(24,(vI (l_1.length:Int))),(25,(vI (k_19:Int))),(30,(vL eS x_21.Refs)),(31,(vI (x_21.Refs.length:Int))),(32,(vI (k_30:Int)))])) (λk x s=>lZ l_1 x_21 k x s) o_38 x_21.Refs s_24 hj_39 rfl (aH rfl) ?_ ?_
    ·rintro ⟨k_30,l_31,s_35⟩ ⟨hL_37,hD_33⟩
     dsimp only at hL_37 hD_33
     cases l_31 with
     | nil =>
      obtain rfl:=ae hL_37
      refine ai (aa (vB (decide ((k_30:Int)<(x_21.Refs.length:Int)))) (ah ?_))
      refine ak (ax rfl (drop_nil hD_33) (aW ?_))
      exact aS (s_35) rfl rfl (aH rfl)
     | cons x_32 l_31 =>
      obtain ⟨c_,hc_36,hL_37⟩:=bind_some hL_37
      refine ai (aa (vB (decide ((k_30:Int)<(x_21.Refs.length:Int)))) (ah ?_))
      refine ak (ay rfl (aZ hD_33) (av ?_))
      unfold lZ at hc_36
      refine ak (aL (ai (dY nM rfl rfl (bz hD_33) rfl wz (bI sz9 ag9 rfl (vS x_32) rfl wz (aa (vS x_32) (ah (ai (aa (vL Alert.enc l_1) (aC 0 1 il ft eO jo rfl rfl (.d (.agg (Alert.enc x_21))) rfl wz (aa (vS x_32) ?_))))))))))
      obtain ⟨r_40,hr_41,hc_36⟩:=bind_some hc_36
      refine aF (zw hr_41) rfl hb37 rfl rfl rfl rfl wz (aa (vI r_40) (ah (ai (aa (vI r_40) (aa (vB (decide (r_40>=0))) (ah ?_))))))
      obtain ⟨v_42,h_43,hc_36⟩:=bind_some hc_36
      refine aP [(0,(vL Alert.enc l_1)),(3,(gV n_10 1 v_42)),(7,(.ref n_29 0 0)),(23,(vL Alert.enc l_1)),(24,(vI (l_1.length:Int))),(25,(vI (k_19:Int))),(30,(vL eS x_21.Refs)),(31,(vI (x_21.Refs.length:Int))),(32,(vI (k_30:Int)))] [(n_10,gB 1 eI v_42),(n_29,some (.cells 9 (Alert.v x_21)))] ?_ ?_
      ·rcases aj h_43 with⟨hc_44,h_43⟩|⟨hc_44,h_43⟩
       ·refine ay rfl hc_44 (bC (aa (gV n_10 1 s_35) (aa (vI r_40) (aa (gV n_10 1 s_35) (aa (vI r_40) ?_)))))
        obtain ⟨_,hi_45,h_43⟩:=bind_some h_43
        refine yl ni rfl rfl (iV hi_45) (fD hi_45) wz ?_
        obtain ⟨e_46,hy_47,h_43⟩:=bind_some h_43
        refine jr 5 0 (.inr (by kernel_rfl)) (λ_ _ ag=>trivial) sz3 ag3 rfl rfl hy_47 (vI e_46) rfl wz (aG kz rfl 4 rfl wz (aC 7 1 (.inr (by kernel_rfl)) (λ_ _ ag=>⟨.inl ⟨rfl,rfl⟩,trivial⟩) sz3 ag3 rfl rfl (vI x_21.At) rfl wz (sM (vI (yD e_46 x_21.At)) rfl (.inl rfl) wz ?_)))
        obtain ⟨_,hi_48,h_43⟩:=bind_some h_43
        refine yl ni rfl rfl (iV hi_48) (fD hi_48) wz ?_
        obtain ⟨e_49,hy_50,h_43⟩:=bind_some h_43
        refine tX 10 (.inr (by kernel_rfl)) (λ_ _ ag=>⟨.inr (.inr (by kernel_rfl)),⟨.inr (.inr (by kernel_rfl)),trivial⟩⟩) 0 sz3 rfl rfl hy_50 (yD e_46 x_21.At) rfl wz (dH (v':=(gV n_10 1 (s_35.set (0+(r_40).toNat) (yD e_46 x_21.At)))) 3 rfl (kJ (by simp)) (dH (v':=(gV n_10 1 (s_35.set (0+(r_40).toNat) (yD e_46 x_21.At)))) 42 rfl (kJ (by simp)) (dH (v':=(gV n_10 1 (s_35.set (0+(r_40).toNat) (yD e_46 x_21.At)))) 44 rfl (kJ (by simp)) (ah ?_))))
        obtain rfl:=ae h_43
        exact cu
       ·refine ax rfl hc_44 (av ?_)
        obtain rfl:=ae h_43
        exact cu
      ·rintro ⟨⟩ _ sl_ H_ hp_ hq_
       refine aN _ hp_ hq_ (au (dZ (bn hD_33 hn_34) wz rfl (aa (vI ((k_30+1:Nat):Int)) (ah ?_))))
       obtain rfl:=ae hc_36
       exact aU (k_30+1,l_31,v_42) ⟨hL_37,aR hD_33⟩ (ls_ _) rfl (aH rfl)
    ·rintro s_35 ho_ sl_ H_ hp_ hq_
     subst ho_
     refine aN _ hp_ hq_ (au (dZ (bn hD_22 hn_23) wz rfl (aa (vI ((k_19+1:Nat):Int)) (ah ?_))))
     obtain rfl:=ae hc_25
     exact aU (k_19+1,l_20,s_35) ⟨hL_26,aR hD_22⟩ (ls_ _) rfl (aH rfl)
  ·rintro s_24 ho_ sl_ H_ hp_ hq_
   subst ho_
   refine aN _ hp_ hq_ (ai (aa (gV n_10 1 s_24) (aa (gV n_10 1 s_24) (ah (gK 0 rfl (dE 2 0 rfl rfl (dE 3 0 rfl rfl (dE 54 0 rfl rfl ?_))))))))
   obtain rfl:=ae hF
   exact aA (aK [(vL eI s_24)] ⟨rfl,trivial⟩)
theorem F8 {a_1:Alert} {endv_2:Int} {atv_3:Int} {r:Bool} (hF:sN a_1 endv_2 atv_3=some r) :
  FnM Tryz.prog 32 [(.d (.agg (Alert.enc a_1))),(vI endv_2),(vI atv_3)] [] (vB r) []:=by
 refine FnM.of_wH ⟨Tryz.prog,21,[],[]⟩ rfl Tryz.func32 rfl rfl (lb_ rfl) (by kernel_rfl) ?_
 unfold sN at hF
 refine ai (gQ 0 (.inl rfl) (Alert.v a_1) rfl rfl wz (λn_4=>aa (vB false) (ah (ak ?_))))
 obtain ⟨v_5,h_6,hF⟩:=bind_some hF
 refine aP [(6,(vB v_5))] [(n_4,some (.cells 9 (Alert.v a_1)))] ?_ ?_
 ·refine au (aG uQ rfl 2 rfl wz (aC 0 0 il ft sz3 ag3 rfl rfl (vI a_1.Kind) rfl wz (aa (vB (a_1.Kind != 3)) ?_)))
  rcases aj h_6 with⟨hc_7,h_6⟩|⟨hc_7,h_6⟩
  ·refine aB rfl hc_7 wz (aG kz rfl 4 rfl wa (aC 0 0 il ft sz3 ag3 rfl rfl (vI a_1.At) rfl wa (aJ (vI atv_3) wa rfl (aJ (vB (decide (a_1.At<=atv_3))) wa rfl (aa (vB (decide (a_1.At<=atv_3))) ?_)))))
   rcases aj h_6 with⟨hc_8,h_6⟩|⟨hc_8,h_6⟩
   ·refine aB rfl hc_8 wz (aJ (vI atv_3) wa rfl (aJ (vI endv_2) wa rfl (aJ (vB (decide (atv_3<endv_2))) wa rfl (aa (vB (decide (atv_3<endv_2))) (aa (vB (decide (atv_3<endv_2))) (ah ?_))))))
    obtain rfl:=ae h_6
    exact cu
   ·refine aB rfl hc_8 wz (af (af (af (aa (vB false) (aa (vB false) (ah ?_))))))
    obtain rfl:=ae h_6
    exact cu
  ·refine aB rfl hc_7 wz (af (af (af (af (aa (vB false) (aa (vB false) (af (af (af (aa (vB false) (aa (vB false) (ah ?_))))))))))))
   obtain rfl:=ae h_6
   exact cu
 ·rintro ⟨⟩ _ sl_ H_ hp_ hq_
  refine aN _ hp_ hq_ ?_
  obtain rfl:=ae hF
  exact aA (aK [(vB v_5)] ⟨rfl,trivial⟩)
theorem Bz {l_1:(List Alert)} {atv_2:Int} {r:(List ByteArray)×Int} (hF:nS l_1 atv_2=some r) :
  FnM Tryz.prog 8 [(vL Alert.enc l_1),(vI atv_2)] [] (.tup [(vL eS r.1),(vI r.2)]) []:=by
 refine FnM.of_wH ⟨Tryz.prog,45,[],[]⟩ rfl Tryz.func8 rfl rfl (lb_ rfl) (by kernel_rfl) ?_
 unfold nS at hF
 refine ai (aa .nil (aa (vI 0) (ah (ak (ai (aa (vL Alert.enc l_1) ?_))))))
 obtain ⟨r_3,hr_4,hF⟩:=bind_some hF
 refine aF (jQ hr_4) rfl hb25 rfl rfl rfl rfl wz (aa (vI r_3) (ah (ai (aa (vI r_3) (aa (vB (r_3 != 0)) (ah ?_))))))
 rcases aj hF with⟨hc_5,hF⟩|⟨hc_5,hF⟩
 ·refine ay rfl hc_5 (ai (aa (vI r_3) (aa .nil (aa (vI r_3) (ah ?_)))))
  obtain rfl:=ae hF
  exact aA (aK [.nil,(vI r_3)] ⟨rfl,⟨rfl,trivial⟩⟩)
 ·refine ax rfl hc_5 (av (ak (ai (aa (vI atv_2) ?_))))
  obtain ⟨r_6,hr_7,hF⟩:=bind_some hF
  refine aF (yg hr_7) rfl hb30 rfl rfl rfl rfl wz (aa (vI r_6) (ah (ai (aa (vI r_6) (aa (vB (r_6 != 0)) (ah ?_))))))
  rcases aj hF with⟨hc_8,hF⟩|⟨hc_8,hF⟩
  ·refine ay rfl hc_8 (ai (aa (vI r_6) (aa .nil (aa (vI r_6) (ah ?_)))))
   obtain rfl:=ae hF
   exact aA (aK [.nil,(vI r_6)] ⟨rfl,⟨rfl,trivial⟩⟩)
  ·refine ax rfl hc_8 (av (ai (aa (vL Alert.enc l_1) ?_)))
   obtain ⟨r_9,hr_10,hF⟩:=bind_some hF
   refine aF (F7 hr_10) rfl hb31 rfl rfl rfl rfl wz (aa (vL eI r_9) (ah (ai (aa .nil (ah (ak (ai (aa (vL Alert.enc l_1) (bG tq rfl wz (aa (vI 0) (ah (l6 (λn_17 => ?_)))))))))))))
   obtain ⟨o_22,hj_23,hF⟩:=bind_some hF
   obtain ⟨hn_15,hj_23⟩:=aX hj_23
   refine ic (σ:=(List ByteArray)) (N:=Nm) (λp=>(λ(s_16:List ByteArray) (n_19:Nm)=>([(9,(gV n_19 1 s_16))]:SL_)) p.1 p.2) (λp=>(λ(s_16:List ByteArray) (n_19:Nm)=>([(n_19,gB 1 eS s_16)]:Hp)) p.1 p.2) (λ(k_11:Nat)=>(λp=>(λ(s_16:List ByteArray) (n_19:Nm)=>([(1,(vI atv_2)),(8,(vL eI r_9)),(9,(gV n_19 1 s_16)),(24,(vL Alert.enc l_1)),(25,(vI (l_1.length:Int))),(26,(vI (k_11:Int)))]:SL_)) p.1 p.2)) (λk x s=>lc r_9 atv_2 k x s) o_22 l_1 (([]:List ByteArray),n_17) hj_23 rfl (aH rfl) ?_ ?_
   ·rintro ⟨k_11,l_12,s_16,n_19⟩ ⟨hL_21,hD_14⟩
    dsimp only at hL_21 hD_14
    cases l_12 with
    | nil =>
     obtain rfl:=ae hL_21
     refine ai (aa (vB (decide ((k_11:Int)<(l_1.length:Int)))) (ah ?_))
     refine ak (ax rfl (drop_nil hD_14) (aW ?_))
     exact aS (s_16,n_19) rfl rfl (aH rfl)
    | cons x_13 l_12 =>
     obtain ⟨c_,hc_20,hL_21⟩:=bind_some hL_21
     refine ai (aa (vB (decide ((k_11:Int)<(l_1.length:Int)))) (ah ?_))
     refine ak (ay rfl (aZ hD_14) (av ?_))
     unfold lc at hc_20
     refine ak (aL (ai (aa (vI (k_11:Int)) (dY mo rfl rfl (bz hD_14) rfl wz (bI eO jo rfl (.d (.agg (Alert.enc x_13))) rfl wz (dC 0 (.inl rfl) z32 rfl wz (λn_24=>aa (vI (k_11:Int)) (fB 0 il ft 1 eO rfl rfl (Alert.v x_13) rfl wz (ah (ak (bC (aC 0 1 (.inr (by kernel_rfl)) (λ_ _ ag=>trivial) eO jo rfl rfl (.d (.agg (Alert.enc x_13))) rfl wz (aa (vL eI r_9) (aa (vI (k_11:Int)) ?_))))))))))))))
     obtain ⟨y_25,hy_26,hc_20⟩:=bind_some hc_20
     refine dY ni rfl rfl hy_26 rfl wz (bI sz3 ag3 rfl (vI y_25) rfl wz (aa (vI atv_2) ?_))
     obtain ⟨r_27,hr_28,hc_20⟩:=bind_some hc_20
     refine aF (F8 hr_28) rfl hb32 rfl rfl rfl rfl wz (ah ?_)
     obtain ⟨v_29,h_30,hc_20⟩:=bind_some hc_20
     refine jW (β:=Nm) (λ(n_31:Nm)=>([(1,(vI atv_2)),(8,(vL eI r_9)),(9,(gV n_31 1 v_29)),(24,(vL Alert.enc l_1)),(25,(vI (l_1.length:Int))),(26,(vI (k_11:Int)))]:SL_)) (λ(n_31:Nm)=>([(n_31,gB 1 eS v_29),(n_24,some (.cells 9 (Alert.v x_13)))]:Hp)) (λ_=>True) ?_ ?_
     ·rcases aj h_30 with⟨hc_32,h_30⟩|⟨hc_32,h_30⟩
      ·refine ay rfl hc_32 (au (aa (gV n_19 1 s_16) (aG jA rfl 0 rfl wz (aC 0 1 il ft sz9 ag9 rfl rfl (vS x_13.Id) rfl wz (eT (([x_13.Id]:List ByteArray).map eS) nM Dr rfl rfl rfl rfl rfl wz ?_)))))
       obtain ⟨a_33,hz_34,h_30⟩:=bind_some h_30
       refine jB 0 il ft (i:=0) Ga Ga sz9 z9 rfl (by decide) by9 (by decide) (λ_=>rfl) rfl rfl rfl hz_34 wz (λn_35=>aa (gV n_35 1 a_33) (ah ?_))
       obtain rfl:=ae h_30
       exact aS n_35 trivial rfl (aH rfl)
      ·refine ax rfl hc_32 (av ?_)
       obtain rfl:=ae h_30
       exact aS n_19 trivial rfl (aH rfl)
     ·rintro n_31 _ sl_ H_ hp_ hq_
      refine aN _ hp_ hq_ (au (dZ (bn hD_14 hn_15) wz rfl (aa (vI ((k_11+1:Nat):Int)) (ah ?_))))
      obtain rfl:=ae hc_20
      exact aU (k_11+1,l_12,v_29,n_31) ⟨hL_21,aR hD_14⟩ (ls_ _) rfl (aH rfl)
   ·rintro ⟨s_16,n_19⟩ ho_ sl_ H_ hp_ hq_
    subst ho_
    refine aN _ hp_ hq_ (ai (aa (gV n_19 1 s_16) (aa (gV n_19 1 s_16) (aa (vI 0) (ah (gK 0 rfl (dE 4 0 rfl rfl (dE 9 0 rfl rfl (dE 44 0 rfl rfl ?_)))))))))
    obtain rfl:=ae hF
    exact aA (aK [(vL eS s_16),(vI 0)] ⟨rfl,⟨rfl,trivial⟩⟩)
theorem AZ {l_1:(List Int)} {r:Int} (hF:p9 l_1=some r) :
  FnM Tryz.prog 9 [(vL eI l_1)] [] (vI r) []:=by
 refine FnM.of_wH ⟨Tryz.prog,15,[],[]⟩ rfl Tryz.func9 rfl rfl (lb_ rfl) (by kernel_rfl) ?_
 unfold p9 at hF
 refine ai (aa (vI 0) (ah (ak (ai (aa (vL eI l_1) (bG un66 rfl wz (aa (vI 0) (ah ?_))))))))
 obtain ⟨o_10,hj_11,hF⟩:=bind_some hF
 obtain ⟨hn_6,hj_11⟩:=aX hj_11
 refine bP (λ(s_7:Unit)=>[]) (λ(s_7:Unit)=>[]) (λ(k_2:Nat)=>(λ(s_7:Unit)=>[(5,(vL eI l_1)),(6,(vI (l_1.length:Int))),(7,(vI (k_2:Int)))])) (λk x s=>xc k x s) o_10 l_1 () hj_11 rfl (aH rfl) ?_ ?_
 ·rintro ⟨k_2,l_3,s_7⟩ ⟨hL_9,hD_5⟩
  dsimp only at hL_9 hD_5
  cases l_3 with
  | nil =>
   obtain rfl:=ae hL_9
   refine ai (aa (vB (decide ((k_2:Int)<(l_1.length:Int)))) (ah ?_))
   refine ak (ax rfl (drop_nil hD_5) (aW ?_))
   exact aS (s_7) rfl rfl (aH rfl)
  | cons x_4 l_3 =>
   obtain ⟨c_,hc_8,hL_9⟩:=bind_some hL_9
   refine ai (aa (vB (decide ((k_2:Int)<(l_1.length:Int)))) (ah ?_))
   refine ak (ay rfl (aZ hD_5) (av ?_))
   unfold xc at hc_8
   refine ak (aL (ai (dY es66 rfl rfl (bz hD_5) rfl wz (bI sz34 ag34 rfl (vI x_4) rfl wz (aa (vI x_4) (ah (ai (aa (vI x_4) (aa (vB (x_4 != 0)) (ah ?_))))))))))
   rcases aj hc_8 with⟨hc_12,hc_8⟩|⟨hc_12,hc_8⟩
   ·refine ay rfl hc_12 (ai (aa (vI x_4) (aa (vI x_4) (ah ?_))))
    obtain rfl:=ae hc_8
    obtain rfl:=ae hL_9
    obtain rfl:=ae hF
    exact aA (aK [(vI x_4)] ⟨rfl,trivial⟩)
   ·refine ax rfl hc_12 (av (au (dZ (bn hD_5 hn_6) wz rfl (aa (vI ((k_2+1:Nat):Int)) (ah ?_)))))
    obtain rfl:=ae hc_8
    exact aU (k_2+1,l_3,()) ⟨hL_9,aR hD_5⟩ (ls_ _) rfl (aH rfl)
 ·rintro s_7 ho_ sl_ H_ hp_ hq_
  subst ho_
  refine aN _ hp_ hq_ (ai (aa (vI 0) (ah ?_)))
  obtain rfl:=ae hF
  exact aA (aK [(vI 0)] ⟨rfl,trivial⟩)
theorem AP {r:(List ByteArray)} (hF:pu  = some r) :
  FnM Tryz.prog 55 [] [] (vL eS r) []:=by
 refine FnM.of_wH ⟨Tryz.prog,2,[],[]⟩ rfl Tryz.func55 rfl rfl (lb_ rfl) (by kernel_rfl) ?_
 unfold pu at hF
 refine ai (aa .nil (ah (ai (eT (([(⟨#[]⟩:ByteArray),(⟨#[110,101,119]⟩:ByteArray),(⟨#[117,112,100,97,116,101]⟩:ByteArray),(⟨#[99,97,110,99,101,108]⟩:ByteArray)]:List ByteArray).map eS) nM Dr rfl rfl rfl rfl rfl wz (aa (vL eS ([(⟨#[]⟩:ByteArray),(⟨#[110,101,119]⟩:ByteArray),(⟨#[117,112,100,97,116,101]⟩:ByteArray),(⟨#[99,97,110,99,101,108]⟩:ByteArray)]:List ByteArray)) (ah ?_))))))
 obtain rfl:=ae hF
 exact aA (aK [(vL eS ([(⟨#[]⟩:ByteArray),(⟨#[110,101,119]⟩:ByteArray),(⟨#[117,112,100,97,116,101]⟩:ByteArray),(⟨#[99,97,110,99,101,108]⟩:ByteArray)]:List ByteArray))] ⟨rfl,trivial⟩)
theorem Dq {x0:Int} {r:ByteArray} (hF:strconv_Itoa x0=some r) :
  FnM Tryz.prog 88 [(vI x0)] [] (vS r) [] :=
 itoa_ok Tryz.strconv_Itoa K5 hF
theorem DF {x0:(List ByteArray)} {x1:ByteArray} {r:ByteArray} (hF:strings_Join x0 x1=some r) :
  FnM Tryz.prog 89 [(vL eS x0),(vS x1)] [] (vS r) [] :=
 join_ok rfl Tryz.strings_Join_none Tryz.strings_Join hF
theorem ym {l_1:(List Int)} {r:ByteArray} (hF:mD l_1=some r) :
  FnM Tryz.prog 56 [(vL eI l_1)] [] (vS r) []:=by
 refine FnM.of_wH ⟨Tryz.prog,20,[],[]⟩ rfl Tryz.func56 rfl rfl (lb_ rfl) (by kernel_rfl) ?_
 unfold mD at hF
 refine ai (aa (vS (⟨#[]⟩:ByteArray)) (ah (ai (aa .nil (ah (ak (ai (aa (vL eI l_1) (bG vJ rfl wz (aa (vI 0) (ah (l6 (λn_8 => ?_)))))))))))))
 obtain ⟨o_13,hj_14,hF⟩:=bind_some hF
 obtain ⟨hn_6,hj_14⟩:=aX hj_14
 refine ic (σ:=(List ByteArray)) (N:=Nm) (λp=>(λ(s_7:List ByteArray) (n_10:Nm)=>([(3,(gV n_10 1 s_7))]:SL_)) p.1 p.2) (λp=>(λ(s_7:List ByteArray) (n_10:Nm)=>([(n_10,gB 1 eS s_7)]:Hp)) p.1 p.2) (λ(k_2:Nat)=>(λp=>(λ(s_7:List ByteArray) (n_10:Nm)=>([(3,(gV n_10 1 s_7)),(6,(vL eI l_1)),(7,(vI (l_1.length:Int))),(8,(vI (k_2:Int)))]:SL_)) p.1 p.2)) (λk x s=>kZ k x s) o_13 l_1 (([]:List ByteArray),n_8) hj_14 rfl (aH rfl) ?_ ?_
 ·rintro ⟨k_2,l_3,s_7,n_10⟩ ⟨hL_12,hD_5⟩
  dsimp only at hL_12 hD_5
  cases l_3 with
  | nil =>
   obtain rfl:=ae hL_12
   refine ai (aa (vB (decide ((k_2:Int)<(l_1.length:Int)))) (ah ?_))
   refine ak (ax rfl (drop_nil hD_5) (aW ?_))
   exact aS (s_7,n_10) rfl rfl (aH rfl)
  | cons x_4 l_3 =>
   obtain ⟨c_,hc_11,hL_12⟩:=bind_some hL_12
   refine ai (aa (vB (decide ((k_2:Int)<(l_1.length:Int)))) (ah ?_))
   refine ak (ay rfl (aZ hD_5) (av ?_))
   unfold kZ at hc_11
   refine ak (aL (ai (dY ni rfl rfl (bz hD_5) rfl wz (bI sz3 ag3 rfl (vI x_4) rfl wz (aa (vI x_4) (ah (au (aa (gV n_10 1 s_7) (aa (vI x_4) ?_)))))))))
   obtain ⟨r_15,hr_16,hc_11⟩:=bind_some hc_11
   refine aF (Dq hr_16) rfl hb88 rfl rfl rfl rfl wz (eT (([r_15]:List ByteArray).map eS) nM Dr rfl rfl rfl rfl rfl wz ?_)
   obtain ⟨a_17,hz_18,hc_11⟩:=bind_some hc_11
   refine jB 0 il ft (i:=0) Ga Ga sz9 z9 rfl (by decide) by9 (by decide) (λ_=>rfl) rfl rfl rfl hz_18 wz (λn_19=>aa (gV n_19 1 a_17) (ah (au (dZ (bn hD_5 hn_6) wz rfl (aa (vI ((k_2+1:Nat):Int)) (ah ?_))))))
   obtain rfl:=ae hc_11
   exact aU (k_2+1,l_3,a_17,n_19) ⟨hL_12,aR hD_5⟩ (ls_ _) rfl (aH rfl)
 ·rintro ⟨s_7,n_10⟩ ho_ sl_ H_ hp_ hq_
  subst ho_
  refine aN _ hp_ hq_ (ak (gK 0 rfl (dE 3 0 rfl rfl (au (aa (vL eS s_7) ?_)))))
  obtain ⟨r_20,hr_21,hF⟩:=bind_some hF
  refine aF (DF hr_21) rfl hb89 rfl rfl rfl rfl wz (aa (vS r_20) (ah ?_))
  obtain rfl:=ae hF
  exact aA (aK [(vS r_20)] ⟨rfl,trivial⟩)
theorem uz {l_1:(List Alert)} {r:ByteArray} (hF:kN l_1=some r) :
  FnM Tryz.prog 33 [(vL Alert.enc l_1)] [] (vS r) []:=by
 refine FnM.of_wH ⟨Tryz.prog,89,[],[]⟩ rfl Tryz.func33 rfl rfl (lb_ rfl) (by kernel_rfl) ?_
 unfold kN at hF
 refine ai (aa (vS (⟨#[]⟩:ByteArray)) (ah (ai (aa (vS (⟨#[]⟩:ByteArray)) (ah (ak (ai (aa (vL Alert.enc l_1) (bG tq rfl wz (aa (vI 0) (ah ?_)))))))))))
 obtain ⟨o_10,hj_11,hF⟩:=bind_some hF
 obtain ⟨hn_6,hj_11⟩:=aX hj_11
 refine bP (λ(s_7:ByteArray)=>[(3,(vS s_7))]) (λ(s_7:ByteArray)=>[]) (λ(k_2:Nat)=>(λ(s_7:ByteArray)=>[(3,(vS s_7)),(10,(vL Alert.enc l_1)),(11,(vI (l_1.length:Int))),(12,(vI (k_2:Int)))])) (λk x s=>ku k x s) o_10 l_1 (⟨#[]⟩:ByteArray) hj_11 rfl (aH rfl) ?_ ?_
 ·rintro ⟨k_2,l_3,s_7⟩ ⟨hL_9,hD_5⟩
  dsimp only at hL_9 hD_5
  cases l_3 with
  | nil =>
   obtain rfl:=ae hL_9
   refine ai (aa (vB (decide ((k_2:Int)<(l_1.length:Int)))) (ah ?_))
   refine ak (ax rfl (drop_nil hD_5) (aW ?_))
   exact aS (s_7) rfl rfl (aH rfl)
  | cons x_4 l_3 =>
   obtain ⟨c_,hc_8,hL_9⟩:=bind_some hL_9
   refine ai (aa (vB (decide ((k_2:Int)<(l_1.length:Int)))) (ah ?_))
   refine ak (ay rfl (aZ hD_5) (av ?_))
   unfold ku at hc_8
   refine ak (aL (ai (dY mo rfl rfl (bz hD_5) rfl wz (bI eO jo rfl (.d (.agg (Alert.enc x_4))) rfl wz (dC 0 (.inl rfl) z32 rfl wz (λn_12=>fB 0 il ft 0 eO rfl rfl (Alert.v x_4) rfl wz (ah (ak (bC (aa (vS s_7) (aG jA rfl 0 rfl wz (aC 2 0 (.inr (by kernel_rfl)) (λ_ _ ag=>trivial) sz9 ag9 rfl rfl (vS x_4.Id) rfl wz ?_))))))))))))
   obtain ⟨s_13,hz_14,hc_8⟩:=bind_some hc_8
   refine p8 rfl rfl hz_14 wz ?_
   obtain ⟨s_15,hz_16,hc_8⟩:=bind_some hc_8
   refine p8 rfl rfl hz_16 wz (aG x8 rfl 1 rfl wz (aC 6 0 (.inr (by kernel_rfl)) (λ_ _ ag=>⟨.inl ⟨rfl,rfl⟩,trivial⟩) sz9 ag9 rfl rfl (vS x_4.Sender) rfl wz ?_))
   obtain ⟨s_17,hz_18,hc_8⟩:=bind_some hc_8
   refine p8 rfl rfl hz_18 wz ?_
   obtain ⟨s_19,hz_20,hc_8⟩:=bind_some hc_8
   refine p8 rfl rfl hz_20 wz ?_
   obtain ⟨r_21,hr_22,hc_8⟩:=bind_some hc_8
   refine aF (AP hr_22) rfl hb55 rfl rfl rfl rfl wz (aG uQ rfl 2 rfl wz (aC 11 0 (.inr (by kernel_rfl)) (λ_ _ ag=>⟨.inl ⟨rfl,rfl⟩,⟨.inl ⟨rfl,rfl⟩,trivial⟩⟩) sz3 ag3 rfl rfl (vI x_4.Kind) rfl wz ?_))
   obtain ⟨y_23,hy_24,hc_8⟩:=bind_some hc_8
   refine dY nM rfl rfl hy_24 rfl wz (bI sz9 ag9 rfl (vS y_23) rfl wz ?_)
   obtain ⟨s_25,hz_26,hc_8⟩:=bind_some hc_8
   refine p8 rfl rfl hz_26 wz ?_
   obtain ⟨s_27,hz_28,hc_8⟩:=bind_some hc_8
   refine p8 rfl rfl hz_28 wz (aG kz rfl 4 rfl wz (aC 17 0 (.inr (by kernel_rfl)) (λ_ _ ag=>⟨.inl ⟨rfl,rfl⟩,⟨.inl ⟨rfl,rfl⟩,⟨.inl ⟨rfl,rfl⟩,trivial⟩⟩⟩) sz3 ag3 rfl rfl (vI x_4.At) rfl wz (aG Ah rfl 5 rfl wz (aC 19 0 (.inr (by kernel_rfl)) (λ_ _ ag=>⟨.inl ⟨rfl,rfl⟩,⟨.inl ⟨rfl,rfl⟩,⟨.inl ⟨rfl,rfl⟩,⟨.inl ⟨rfl,rfl⟩,trivial⟩⟩⟩⟩) sz3 ag3 rfl rfl (vI x_4.Until) rfl wz (aG Iy rfl 6 rfl wz (aC 21 0 (.inr (by kernel_rfl)) (λ_ _ ag=>⟨.inl ⟨rfl,rfl⟩,⟨.inl ⟨rfl,rfl⟩,⟨.inl ⟨rfl,rfl⟩,⟨.inl ⟨rfl,rfl⟩,⟨.inl ⟨rfl,rfl⟩,trivial⟩⟩⟩⟩⟩) sz3 ag3 rfl rfl (vI x_4.Weight) rfl wz (eT (([x_4.At,x_4.Until,x_4.Weight]:List Int).map eI) ni BG rfl rfl rfl rfl rfl wz ?_)))))))
   obtain ⟨r_29,hr_30,hc_8⟩:=bind_some hc_8
   refine aF (ym hr_30) rfl hb56 rfl rfl rfl rfl wz ?_
   obtain ⟨s_31,hz_32,hc_8⟩:=bind_some hc_8
   refine p8 rfl rfl hz_32 wz ?_
   obtain ⟨s_33,hz_34,hc_8⟩:=bind_some hc_8
   refine p8 rfl rfl hz_34 wz ?_
   obtain ⟨s_35,hz_36,hc_8⟩:=bind_some hc_8
   refine p8 rfl rfl hz_36 wz (aa (vS s_35) (ah (aN (H0:=([(n_12,some (.cells 9 (Alert.v x_4)))]:Hp)) ([(3,(vS s_35)),(5,(.ref n_12 0 0)),(10,(vL Alert.enc l_1)),(11,(vI (l_1.length:Int))),(12,(vI (k_2:Int)))]:SL_) (by kernel_rfl) (zZ (by kernel_rfl)) (ak (ai (aG nJ rfl 3 rfl wz (aC 0 0 il ft xK zW rfl rfl (vL eS x_4.Refs) rfl wz (bG uT rfl wz (aa (vI 0) (ah ?_))))))))))
   obtain ⟨o_45,hj_46,hc_8⟩:=bind_some hc_8
   obtain ⟨hn_41,hj_46⟩:=aX hj_46
   refine bP (λ(s_42:ByteArray)=>[(3,(vS s_42)),(5,(.ref n_12 0 0)),(10,(vL Alert.enc l_1)),(11,(vI (l_1.length:Int))),(12,(vI (k_2:Int)))]) (λ(s_42:ByteArray)=>[(n_12,some (.cells 9 (Alert.v x_4)))]) (λ(k_37:Nat)=>(λ(s_42:ByteArray)=>[(3,(vS s_42)),(5,(.ref n_12 0 0)),(10,(vL Alert.enc l_1)),(11,(vI (l_1.length:Int))),(12,(vI (k_2:Int))),(44,(vL eS x_4.Refs)),(45,(vI (x_4.Refs.length:Int))),(46,(vI (k_37:Int)))])) (λk x s=>iW k x s) o_45 x_4.Refs s_35 hj_46 rfl (aH rfl) ?_ ?_
   ·rintro ⟨k_37,l_38,s_42⟩ ⟨hL_44,hD_40⟩
    dsimp only at hL_44 hD_40
    cases l_38 with
    | nil =>
     obtain rfl:=ae hL_44
     refine ai (aa (vB (decide ((k_37:Int)<(x_4.Refs.length:Int)))) (ah ?_))
     refine ak (ax rfl (drop_nil hD_40) (aW ?_))
     exact aS (s_42) rfl rfl (aH rfl)
    | cons x_39 l_38 =>
     obtain ⟨c_,hc_43,hL_44⟩:=bind_some hL_44
     refine ai (aa (vB (decide ((k_37:Int)<(x_4.Refs.length:Int)))) (ah ?_))
     refine ak (ay rfl (aZ hD_40) (av ?_))
     unfold iW at hc_43
     refine ak (aL (ai (dY nM rfl rfl (bz hD_40) rfl wz (bI sz9 ag9 rfl (vS x_39) rfl wz (aa (vS x_39) (ah (au (aa (vS s_42) (aa (vS x_39) ?_)))))))))
     obtain ⟨s_47,hz_48,hc_43⟩:=bind_some hc_43
     refine p8 rfl rfl hz_48 wz ?_
     obtain ⟨s_49,hz_50,hc_43⟩:=bind_some hc_43
     refine p8 rfl rfl hz_50 wz ?_
     obtain ⟨s_51,hz_52,hc_43⟩:=bind_some hc_43
     refine p8 rfl rfl hz_52 wz (aa (vS s_51) (ah (au (dZ (bn hD_40 hn_41) wz rfl (aa (vI ((k_37+1:Nat):Int)) (ah ?_))))))
     obtain rfl:=ae hc_43
     exact aU (k_37+1,l_38,s_51) ⟨hL_44,aR hD_40⟩ (ls_ _) rfl (aH rfl)
   ·rintro s_42 ho_ sl_ H_ hp_ hq_
    subst ho_
    refine aN _ hp_ hq_ (ak (ai (aG sI rfl 7 rfl wz (aC 0 0 il ft Ch EC rfl rfl (vL Rect.enc x_4.Areas) rfl wz (bG xL rfl wz (aa (vI 0) (ah ?_)))))))
    obtain ⟨o_61,hj_62,hc_8⟩:=bind_some hc_8
    obtain ⟨hn_57,hj_62⟩:=aX hj_62
    refine bP (λ(s_58:ByteArray)=>[(3,(vS s_58)),(5,(.ref n_12 0 0)),(10,(vL Alert.enc l_1)),(11,(vI (l_1.length:Int))),(12,(vI (k_2:Int)))]) (λ(s_58:ByteArray)=>[(n_12,some (.cells 9 (Alert.v x_4)))]) (λ(k_53:Nat)=>(λ(s_58:ByteArray)=>[(3,(vS s_58)),(5,(.ref n_12 0 0)),(10,(vL Alert.enc l_1)),(11,(vI (l_1.length:Int))),(12,(vI (k_2:Int))),(57,(vL Rect.enc x_4.Areas)),(58,(vI (x_4.Areas.length:Int))),(59,(vI (k_53:Int)))])) (λk x s=>iY k x s) o_61 x_4.Areas s_42 hj_62 rfl (aH rfl) ?_ ?_
    ·rintro ⟨k_53,l_54,s_58⟩ ⟨hL_60,hD_56⟩
     dsimp only at hL_60 hD_56
     cases l_54 with
     | nil =>
      obtain rfl:=ae hL_60
      refine ai (aa (vB (decide ((k_53:Int)<(x_4.Areas.length:Int)))) (ah ?_))
      refine ak (ax rfl (drop_nil hD_56) (aW ?_))
      exact aS (s_58) rfl rfl (aH rfl)
     | cons x_55 l_54 =>
      obtain ⟨c_,hc_59,hL_60⟩:=bind_some hL_60
      refine ai (aa (vB (decide ((k_53:Int)<(x_4.Areas.length:Int)))) (ah ?_))
      refine ak (ay rfl (aZ hD_56) (av ?_))
      unfold iY at hc_59
      refine ak (aL (ai (dY Au rfl rfl (bz hD_56) rfl wz (bI q8 Du rfl (.d (.agg (Rect.enc x_55))) rfl wz (dC 0 (.inl rfl) z53 rfl wz (λn_63=>fB 0 il ft 1 q8 rfl rfl (Rect.v x_55) rfl wz (ah (au (aa (vS s_58) (aG zR rfl 0 rfl wz (aC 0 1 il ft sz3 ag3 rfl rfl (vI x_55.X) rfl wz (aG xA rfl 1 rfl wz (aC 0 1 il ft sz3 ag3 rfl rfl (vI x_55.Y) rfl wz (aG Ej rfl 2 rfl wz (aC 0 1 il ft sz3 ag3 rfl rfl (vI x_55.W) rfl wz (aG BA rfl 3 rfl wz (aC 0 1 il ft sz3 ag3 rfl rfl (vI x_55.H) rfl wz (eT (([x_55.X,x_55.Y,x_55.W,x_55.H]:List Int).map eI) ni BG rfl rfl rfl rfl rfl wz ?_))))))))))))))))))
      obtain ⟨r_64,hr_65,hc_59⟩:=bind_some hc_59
      refine aF (ym hr_65) rfl hb56 rfl rfl rfl rfl wz ?_
      obtain ⟨s_66,hz_67,hc_59⟩:=bind_some hc_59
      refine p8 rfl rfl hz_67 wz ?_
      obtain ⟨s_68,hz_69,hc_59⟩:=bind_some hc_59
      refine p8 rfl rfl hz_69 wz ?_
      obtain ⟨s_70,hz_71,hc_59⟩:=bind_some hc_59
      refine p8 rfl rfl hz_71 wz (aa (vS s_70) (ah (au (dZ (bn hD_56 hn_57) wz rfl (aa (vI ((k_53+1:Nat):Int)) (ah ?_))))))
      obtain rfl:=ae hc_59
      exact aU (k_53+1,l_54,s_70) ⟨hL_60,aR hD_56⟩ (ls_ _) rfl (aH rfl)
    ·rintro s_58 ho_ sl_ H_ hp_ hq_
     subst ho_
     refine aN _ hp_ hq_ (ai (aG yK rfl 8 rfl wz (aC 0 0 il ft sz9 ag9 rfl rfl (vS x_4.Text) rfl wz (aa (vB (sNe x_4.Text (⟨#[]⟩:ByteArray))) (ah ?_)))))
     obtain ⟨v_72,h_73,hc_8⟩:=bind_some hc_8
     refine aP [(3,(vS v_72)),(10,(vL Alert.enc l_1)),(11,(vI (l_1.length:Int))),(12,(vI (k_2:Int)))] [(n_12,some (.cells 9 (Alert.v x_4)))] ?_ ?_
     ·rcases aj h_73 with⟨hc_74,h_73⟩|⟨hc_74,h_73⟩
      ·refine ay rfl hc_74 (au (aa (vS s_58) (aG yK rfl 8 rfl wz (aC 0 0 il ft sz9 ag9 rfl rfl (vS x_4.Text) rfl wz ?_))))
       obtain ⟨s_75,hz_76,h_73⟩:=bind_some h_73
       refine p8 rfl rfl hz_76 wz ?_
       obtain ⟨s_77,hz_78,h_73⟩:=bind_some h_73
       refine p8 rfl rfl hz_78 wz ?_
       obtain ⟨s_79,hz_80,h_73⟩:=bind_some h_73
       refine p8 rfl rfl hz_80 wz (aa (vS s_79) (ah ?_))
       obtain rfl:=ae h_73
       exact cu
      ·refine ax rfl hc_74 (av ?_)
       obtain rfl:=ae h_73
       exact cu
     ·rintro ⟨⟩ _ sl_ H_ hp_ hq_
      refine aN _ hp_ hq_ (au (dZ (bn hD_5 hn_6) wz rfl (aa (vI ((k_2+1:Nat):Int)) (ah ?_))))
      obtain rfl:=ae hc_8
      exact aU (k_2+1,l_3,v_72) ⟨hL_9,aR hD_5⟩ (ls_ _) rfl (aH rfl)
 ·rintro s_7 ho_ sl_ H_ hp_ hq_
  subst ho_
  refine aN _ hp_ hq_ (ai (aa (vS s_7) (aa (vS s_7) (ah ?_))))
  obtain rfl:=ae hF
  exact aA (aK [(vS s_7)] ⟨rfl,trivial⟩)
theorem BF {a_1:Alert} {b_2:Alert} {r:Bool} (hF:nU a_1 b_2=some r) :
  FnM Tryz.prog 11 [(.d (.agg (Alert.enc a_1))),(.d (.agg (Alert.enc b_2)))] [] (vB r) []:=by
 refine FnM.of_wH ⟨Tryz.prog,12,[],[]⟩ rfl Tryz.func11 rfl rfl (lb_ rfl) (by kernel_rfl) ?_
 unfold nU at hF
 refine ai (gQ 0 (.inl rfl) (Alert.v a_1) rfl rfl wz (λn_3=>gQ 0 (.inl rfl) (Alert.v b_2) rfl rfl wz (λn_4=>aa (vB false) (ah (ak (bC (aC 0 0 (.inr (by kernel_rfl)) (λ_ _ ag=>trivial) eO jo rfl rfl (.d (.agg (Alert.enc a_1))) rfl wz (eT (([a_1]:List Alert).map Alert.enc) mo Iw rfl rfl rfl rfl rfl wz ?_))))))))
 obtain ⟨r_5,hr_6,hF⟩:=bind_some hF
 refine aF (uz hr_6) rfl hb33 rfl rfl rfl rfl wz (aC 3 1 (.inr (by kernel_rfl)) (λ_ _ ag=>⟨.inl ⟨rfl,rfl⟩,trivial⟩) eO jo rfl rfl (.d (.agg (Alert.enc b_2))) rfl wz (eT (([b_2]:List Alert).map Alert.enc) mo Iw rfl rfl rfl rfl rfl wz ?_))
 obtain ⟨r_7,hr_8,hF⟩:=bind_some hF
 refine aF (uz hr_8) rfl hb33 rfl rfl rfl rfl wz (aa (vB (sEq r_5 r_7)) (aa (vB (sEq r_5 r_7)) (ah ?_)))
 obtain rfl:=ae hF
 exact aA (aK [(vB (sEq r_5 r_7))] ⟨rfl,trivial⟩)
theorem dK {s1_1:(List Alert)} {s2_2:(List Alert)} {r:Bool} (hF:aO s1_1 s2_2=some r) :
  FnM Tryz.prog 10 [(vL Alert.enc s1_1),(vL Alert.enc s2_2),(.fn 11 [])] [] (vB r) []:=by
 refine FnM.of_wH ⟨Tryz.prog,32,[],[]⟩ rfl Tryz.func10 rfl rfl (lb_ rfl) (by kernel_rfl) ?_
 unfold aO at hF
 refine ai (aa (vB false) (ah (ak (ai (aa (vL Alert.enc s1_1) (bG tq rfl wz (aa (vL Alert.enc s2_2) (bG tq rfl wz (aa (vB ((s1_1.length:Int) != (s2_2.length:Int))) (ah ?_))))))))))
 rcases aj hF with⟨hc_4,hF⟩|⟨hc_4,hF⟩
 ·refine ay rfl hc_4 (ai (aa (vB false) (ah ?_)))
  obtain rfl:=ae hF
  exact aA (aK [(vB false)] ⟨rfl,trivial⟩)
 ·refine ax rfl hc_4 (av (ak (ai (aa (vL Alert.enc s1_1) (bG tq rfl wz (aa (vI 0) (ah ?_)))))))
  obtain ⟨o_13,hj_14,hF⟩:=bind_some hF
  obtain ⟨hn_9,hj_14⟩:=aX hj_14
  refine bP (λ(s_10:Unit)=>[]) (λ(s_10:Unit)=>[]) (λ(k_5:Nat)=>(λ(s_10:Unit)=>[(1,(vL Alert.enc s2_2)),(2,(.fn 11 [])),(15,(vL Alert.enc s1_1)),(16,(vI (s1_1.length:Int))),(17,(vI (k_5:Int)))])) (λk x s=>aY s2_2 k x s) o_13 s1_1 () hj_14 rfl (aH rfl) ?_ ?_
  ·rintro ⟨k_5,l_6,s_10⟩ ⟨hL_12,hD_8⟩
   dsimp only at hL_12 hD_8
   cases l_6 with
   | nil =>
    obtain rfl:=ae hL_12
    refine ai (aa (vB (decide ((k_5:Int)<(s1_1.length:Int)))) (ah ?_))
    refine ak (ax rfl (drop_nil hD_8) (aW ?_))
    exact aS (s_10) rfl rfl (aH rfl)
   | cons x_7 l_6 =>
    obtain ⟨c_,hc_11,hL_12⟩:=bind_some hL_12
    refine ai (aa (vB (decide ((k_5:Int)<(s1_1.length:Int)))) (ah ?_))
    refine ak (ay rfl (aZ hD_8) (av ?_))
    unfold aY at hc_11
    refine ak (aL (ai (aa (vI (k_5:Int)) (dY mo rfl rfl (bz hD_8) rfl wz (bI eO jo rfl (.d (.agg (Alert.enc x_7))) rfl wz (dC 0 (.inl rfl) z32 rfl wz (λn_15=>aa (vI (k_5:Int)) (fB 0 il ft 0 eO rfl rfl (Alert.v x_7) rfl wz (ah (ai (aa (vL Alert.enc s2_2) (aa (vI (k_5:Int)) ?_))))))))))))
    obtain ⟨y_16,hy_17,hc_11⟩:=bind_some hc_11
    refine dY mo rfl rfl hy_17 rfl wz (bI eO jo rfl (.d (.agg (Alert.enc y_16))) rfl wz (dC 0 (.inl rfl) z32 rfl wz (λn_18=>fB 0 il ft 1 eO rfl rfl (Alert.v y_16) rfl wz (ah (ai (aa (.fn 11 []) (aC 0 0 il ft eO jo rfl rfl (.d (.agg (Alert.enc x_7))) rfl wz (aC 0 1 il ft eO jo rfl rfl (.d (.agg (Alert.enc y_16))) rfl wz ?_))))))))
    obtain ⟨r_19,hr_20,hc_11⟩:=bind_some hc_11
    refine aF (BF hr_20) rfl hb11 rfl rfl rfl rfl wz (aa (vB (!r_19)) (ah ?_))
    rcases aj hc_11 with⟨hc_21,hc_11⟩|⟨hc_21,hc_11⟩
    ·refine ay rfl hc_21 (ai (aa (vB false) (ah ?_)))
     obtain rfl:=ae hc_11
     obtain rfl:=ae hL_12
     obtain rfl:=ae hF
     exact aA (aK [(vB false)] ⟨rfl,trivial⟩)
    ·refine ax rfl hc_21 (av (au (dZ (bn hD_8 hn_9) wz rfl (aa (vI ((k_5+1:Nat):Int)) (ah ?_)))))
     obtain rfl:=ae hc_11
     exact aU (k_5+1,l_6,()) ⟨hL_12,aR hD_8⟩ (ls_ _) rfl (aH rfl)
  ·rintro s_10 ho_ sl_ H_ hp_ hq_
   subst ho_
   refine aN _ hp_ hq_ (ai (aa (vB true) (ah ?_)))
   obtain rfl:=ae hF
   exact aA (aK [(vB true)] ⟨rfl,trivial⟩)
theorem qQ {s_1:(List ByteArray)} {v_2:ByteArray} {r:Int} (hF:iq s_1 v_2=some r) :
  FnM Tryz.prog 34 [(vL eS s_1),(vS v_2)] [] (vI r) []:=by
 refine FnM.of_wH ⟨Tryz.prog,19,[],[]⟩ rfl Tryz.func34 rfl rfl (lb_ rfl) (by kernel_rfl) ?_
 unfold iq at hF
 refine ai (aa (vI 0) (ah (ak (ai (aa (vL eS s_1) (bG uT rfl wz (aa (vI 0) (ah ?_))))))))
 obtain ⟨o_11,hj_12,hF⟩:=bind_some hF
 obtain ⟨hn_7,hj_12⟩:=aX hj_12
 refine bP (λ(s_8:Unit)=>[]) (λ(s_8:Unit)=>[]) (λ(k_3:Nat)=>(λ(s_8:Unit)=>[(0,(vL eS s_1)),(1,(vS v_2)),(7,(vI (s_1.length:Int))),(8,(vI (k_3:Int)))])) (λk x s=>gq v_2 k x s) o_11 s_1 () hj_12 rfl (aH rfl) ?_ ?_
 ·rintro ⟨k_3,l_4,s_8⟩ ⟨hL_10,hD_6⟩
  dsimp only at hL_10 hD_6
  cases l_4 with
  | nil =>
   obtain rfl:=ae hL_10
   refine ai (aa (vB (decide ((k_3:Int)<(s_1.length:Int)))) (ah ?_))
   refine ak (ax rfl (drop_nil hD_6) (aW ?_))
   exact aS (s_8) rfl rfl (aH rfl)
  | cons x_5 l_4 =>
   obtain ⟨c_,hc_9,hL_10⟩:=bind_some hL_10
   refine ai (aa (vB (decide ((k_3:Int)<(s_1.length:Int)))) (ah ?_))
   refine ak (ay rfl (aZ hD_6) (av ?_))
   unfold gq at hc_9
   refine ak (aL (ai (aa (vI (k_3:Int)) (aa (vI (k_3:Int)) (ah (ai (aa (vS v_2) (aa (vL eS s_1) (aa (vI (k_3:Int)) (dY nM rfl rfl (bz hD_6) rfl wz (bI sz9 ag9 rfl (vS x_5) rfl wz (aa (vB (sEq v_2 x_5)) (ah ?_)))))))))))))
   rcases aj hc_9 with⟨hc_13,hc_9⟩|⟨hc_13,hc_9⟩
   ·refine ay rfl hc_13 (ai (aa (vI (k_3:Int)) (aa (vI (k_3:Int)) (ah ?_))))
    obtain rfl:=ae hc_9
    obtain rfl:=ae hL_10
    obtain rfl:=ae hF
    exact aA (aK [(vI (k_3:Int))] ⟨rfl,trivial⟩)
   ·refine ax rfl hc_13 (av (au (dZ (bn hD_6 hn_7) wz rfl (aa (vI ((k_3+1:Nat):Int)) (ah ?_)))))
    obtain rfl:=ae hc_9
    exact aU (k_3+1,l_4,()) ⟨hL_10,aR hD_6⟩ (ls_ _) rfl (aH rfl)
 ·rintro s_8 ho_ sl_ H_ hp_ hq_
  subst ho_
  refine aN _ hp_ hq_ (ai (aa (vI (-1)) (ah ?_)))
  obtain rfl:=ae hF
  exact aA (aK [(vI (-1))] ⟨rfl,trivial⟩)
theorem ik {s_1:(List ByteArray)} {v_2:ByteArray} {r:Bool} (hF:cO s_1 v_2=some r) :
  FnM Tryz.prog 12 [(vL eS s_1),(vS v_2)] [] (vB r) []:=by
 refine FnM.of_wH ⟨Tryz.prog,9,[],[]⟩ rfl Tryz.func12 rfl rfl (lb_ rfl) (by kernel_rfl) ?_
 unfold cO at hF
 refine ai (aa (vB false) (ah (ai (aa (vL eS s_1) (aa (vS v_2) ?_)))))
 obtain ⟨r_3,hr_4,hF⟩:=bind_some hF
 refine aF (qQ hr_4) rfl hb34 rfl rfl rfl rfl wz (aa (vB (decide (r_3>=0))) (aa (vB (decide (r_3>=0))) (ah ?_)))
 obtain rfl:=ae hF
 exact aA (aK [(vB (decide (r_3>=0)))] ⟨rfl,trivial⟩)
theorem vw {o_1:Alert} {p_2:Alert} {p_3:Int} {r:Bool} (hF:ib o_1 p_2 p_3=some r) :
  FnM Tryz.prog 14 [(.d (.agg (Alert.enc o_1))),(.ref (aD 0) 0 0),(.ref (aD 1) 0 0)] [(.cells 9 (Alert.v p_2)),(.cells 1 [(vI p_3)])] (vB r) [some (.cells 9 (Alert.v p_2)),some (.cells 1 [(vI p_3)])]:=by
 refine FnM.of_wH ⟨Tryz.prog,46,[],[]⟩ rfl Tryz.func14 rfl rfl (lb_ rfl) (by kernel_rfl) ?_
 unfold ib at hF
 refine ai (gQ 0 (.inl rfl) (Alert.v o_1) rfl rfl wz (λn_4=>aa (vB false) (ah (ak ?_))))
 obtain ⟨v_5,h_6,hF⟩:=bind_some hF
 refine aP [(1,(.ref (aD 0) 0 0)),(2,(.ref (aD 1) 0 0)),(3,(.ref n_4 0 0)),(5,(vB v_5))] [((aD 0),some (.cells 9 (Alert.v p_2))),((aD 1),some (.cells 1 [(vI p_3)])),(n_4,some (.cells 9 (Alert.v o_1)))] ?_ ?_
 ·refine au (aG kz rfl 4 rfl wz (aC 0 0 il ft sz3 ag3 rfl rfl (vI p_2.At) rfl wz (aG kz rfl 4 rfl wz (aC 0 2 il ft sz3 ag3 rfl rfl (vI o_1.At) rfl wz (aa (vB (decide (p_2.At<o_1.At))) ?_)))))
  rcases aj h_6 with⟨hc_7,h_6⟩|⟨hc_7,h_6⟩
  ·refine aB rfl hc_7 wz (af (af (af (af (af (af (dx (wn rfl rfl) (dx (wn rfl rfl) (dx (wn rfl rfl) (dx (wn rfl rfl) (dx (wn rfl rfl) (af (aa (vB true) (aa (vB true) (ah ?_)))))))))))))))
   obtain rfl:=ae h_6
   exact cu
  ·refine aB rfl hc_7 wz (aG kz rfl 4 rfl wa (aC 0 0 il ft sz3 ag3 rfl rfl (vI p_2.At) rfl wa (aG kz rfl 4 rfl wa (aC 0 2 il ft sz3 ag3 rfl rfl (vI o_1.At) rfl wa (aJ (vB (p_2.At==o_1.At)) wa rfl ?_)))))
   rcases aj h_6 with⟨hc_8,h_6⟩|⟨hc_8,h_6⟩
   ·refine aB rfl hc_8 wa (aG jA rfl 0 rfl wa (aC 0 0 il ft sz9 ag9 rfl rfl (vS p_2.Id) rfl wa (aG jA rfl 0 rfl wa (aC 0 2 il ft sz9 ag9 rfl rfl (vS o_1.Id) rfl wa (aJ (vB (sLt p_2.Id o_1.Id)) wa rfl (aJ (vB (sLt p_2.Id o_1.Id)) wa rfl (aa (vB (sLt p_2.Id o_1.Id)) (aa (vB (sLt p_2.Id o_1.Id)) (ah ?_)))))))))
    obtain rfl:=ae h_6
    exact cu
   ·refine aB rfl hc_8 wa (af (af (af (af (af (aJ (vB false) wa rfl (aa (vB false) (aa (vB false) (ah ?_)))))))))
    obtain rfl:=ae h_6
    exact cu
 ·rintro ⟨⟩ _ sl_ H_ hp_ hq_
  refine aN _ hp_ hq_ (ak ?_)
  obtain ⟨v_9,h_10,hF⟩:=bind_some hF
  refine aP [(4,(vB v_9))] [((aD 0),some (.cells 9 (Alert.v p_2))),((aD 1),some (.cells 1 [(vI p_3)])),(n_4,some (.cells 9 (Alert.v o_1)))] ?_ ?_
  ·refine au (aa (vB v_5) ?_)
   rcases aj h_10 with⟨hc_11,h_10⟩|⟨hc_11,h_10⟩
   ·refine aB rfl hc_11 wz (aG x8 rfl 1 rfl wa (aC 0 2 il ft sz9 ag9 rfl rfl (vS o_1.Sender) rfl wa (aG x8 rfl 1 rfl wa (aC 0 0 il ft sz9 ag9 rfl rfl (vS p_2.Sender) rfl wa (aJ (vB (sEq o_1.Sender p_2.Sender)) wa rfl (aa (vB (sEq o_1.Sender p_2.Sender)) ?_))))))
    rcases aj h_10 with⟨hc_12,h_10⟩|⟨hc_12,h_10⟩
    ·refine aB rfl hc_12 wz (aG nJ rfl 3 rfl wa (aC 0 2 il ft xK zW rfl rfl (vL eS o_1.Refs) rfl wa (aG jA rfl 0 rfl wa (aC 0 0 il ft sz9 ag9 rfl rfl (vS p_2.Id) rfl wa ?_))))
     obtain ⟨r_13,hr_14,h_10⟩:=bind_some h_10
     refine aF (ik hr_14) rfl hb12 rfl rfl rfl rfl wa (aa (vB r_13) ?_)
     rcases aj h_10 with⟨hc_15,h_10⟩|⟨hc_15,h_10⟩
     ·refine aB rfl hc_15 wz (aG kz rfl 4 rfl wa (aC 0 2 il ft sz3 ag3 rfl rfl (vI o_1.At) rfl wa (aC 0 1 il ft sz3 ag3 rfl rfl (vI p_3) rfl wa (aJ (vB (decide (o_1.At<=p_3))) wa rfl (aa (vB (decide (o_1.At<=p_3))) (aa (vB (decide (o_1.At<=p_3))) (ah ?_)))))))
      obtain rfl:=ae h_10
      exact cu
     ·refine aB rfl hc_15 wz (af (af (af (af (aa (vB false) (aa (vB false) (ah ?_)))))))
      obtain rfl:=ae h_10
      exact cu
    ·refine aB rfl hc_12 wz (af (af (af (af (af (aa (vB false) (aa (vB false) (af (af (af (af (aa (vB false) (aa (vB false) (ah ?_))))))))))))))
     obtain rfl:=ae h_10
     exact cu
   ·refine aB rfl hc_11 wz (af (af (af (af (af (aa (vB false) (aa (vB false) (af (af (af (af (af (aa (vB false) (aa (vB false) (af (af (af (af (aa (vB false) (aa (vB false) (ah ?_)))))))))))))))))))))
    obtain rfl:=ae h_10
    exact cu
  ·rintro ⟨⟩ _ sl_ H_ hp_ hq_
   refine aN _ hp_ hq_ ?_
   obtain rfl:=ae hF
   exact aA (Cw (.inr rfl) [(vB v_9)] _ [0,1] [aD 0,aD 1] ⟨rfl,trivial⟩ (.cons (kH rfl rfl) (.nil)) (by kernel_rfl) ⟨(by kernel_rfl),⟨(by kernel_rfl),trivial⟩⟩ (by decide) (by kernel_rfl))
theorem lI {s_1:(List Alert)} {f_2:Alert->Option Bool} {r:Bool} {gid:FuncId} {caps:List V} {Sin:List Box} (hfn:∀x0 r,f_2 x0=some r->FnM Tryz.prog gid ([(.d (.agg (Alert.enc x0)))]++caps) Sin (vB r) (Sin.map some)) (hbF:aI Tryz.prog gid=true) (hcapF:caps.flatMap frz=[]/\caps.map co0=caps) (hokF:okL Sin.length caps=true) (hsF:∀b∈Sin,b.ok Sin.length=true) (hmF:∀b∈Sin,b.mut=true) (hF:bE s_1 f_2=some r) :
  FnM Tryz.prog 13 [(vL Alert.enc s_1),(.fn gid caps)] Sin (vB r) (Sin.map some):=by
 refine FnM.of_wH ⟨Tryz.prog,9,[],[]⟩ rfl Tryz.func13 rfl rfl (lb_ rfl) (by kernel_rfl) ?_
 unfold bE at hF
 refine ai (aa (vB false) (ah (ai (aa (vL Alert.enc s_1) (aa (.fn gid caps) ?_)))))
 obtain ⟨r_3,hr_4,hF⟩:=bind_some hF
 refine DT (fw (gid:=gid) (caps:=caps) (Sin:=Sin) hfn hbF hcapF hokF hsF hmF hr_4) rfl hb35 rfl rfl ⟨rfl,rfl⟩ (by simp [okL,okV,hokF]) hsF hmF rfl wz rfl (aa (vB (decide (r_3>=0))) (aa (vB (decide (r_3>=0))) (ah ?_)))
 obtain rfl:=ae hF
 exact aA (N9 hsF (.inr rfl) [(vB (decide (r_3>=0)))] ⟨rfl,trivial⟩ rfl rfl rfl)
theorem AA {a_1:Alert} {p_2:ByteArray} {r:Bool} (hF:kW a_1 p_2=some r) :
  FnM Tryz.prog 36 [(.d (.agg (Alert.enc a_1))),(.ref (aD 0) 0 0)] [(.cells 1 [(vS p_2)])] (vB r) [some (.cells 1 [(vS p_2)])]:=by
 refine FnM.of_wH ⟨Tryz.prog,8,[],[]⟩ rfl Tryz.func36 rfl rfl (lb_ rfl) (by kernel_rfl) ?_
 unfold kW at hF
 refine ai (gQ 0 (.inl rfl) (Alert.v a_1) rfl rfl wz (λn_3=>aa (vB false) (ah (ai (aG jA rfl 0 rfl wz (aC 0 1 il ft sz9 ag9 rfl rfl (vS a_1.Id) rfl wz (aC 0 0 il ft sz9 ag9 rfl rfl (vS p_2) rfl wz (aa (vB (sEq a_1.Id p_2)) (aa (vB (sEq a_1.Id p_2)) (ah ?_))))))))))
 obtain rfl:=ae hF
 exact aA (Cw (.inr rfl) [(vB (sEq a_1.Id p_2))] _ [0] [aD 0] ⟨rfl,trivial⟩ (.cons (kH rfl rfl) (.nil)) (by kernel_rfl) ⟨(by kernel_rfl),trivial⟩ (by decide) (by kernel_rfl))
theorem rU {x_1:ByteArray} {r:Bool} (hF:cmp_isNaN_string x_1=some r) :
  FnM Tryz.prog 132 [(vS x_1)] [] (vB r) []:=by
 refine FnM.of_wH ⟨Tryz.prog,6,[],[]⟩ rfl Tryz.func132 rfl rfl (lb_ rfl) (by kernel_rfl) ?_
 unfold cmp_isNaN_string at hF
 refine ai (aa (vB false) (ah (ai (aa (vS x_1) (aa (vS x_1) (aa (vB (sNe x_1 x_1)) (aa (vB (sNe x_1 x_1)) (ah ?_))))))))
 obtain rfl:=ae hF
 exact aA (aK [(vB (sNe x_1 x_1))] ⟨rfl,trivial⟩)
theorem zV {x_1:ByteArray} {y_2:ByteArray} {r:Bool} (hF:cmp_Less_string x_1 y_2=some r) :
  FnM Tryz.prog 96 [(vS x_1),(vS y_2)] [] (vB r) []:=by
 refine FnM.of_wH ⟨Tryz.prog,17,[],[]⟩ rfl Tryz.func96 rfl rfl (lb_ rfl) (by kernel_rfl) ?_
 unfold cmp_Less_string at hF
 refine ai (aa (vB false) (ah (ak ?_)))
 obtain ⟨v_3,h_4,hF⟩:=bind_some hF
 refine aP [(4,(vB v_3))] [] ?_ ?_
 ·refine au (aa (vS x_1) ?_)
  obtain ⟨r_5,hr_6,h_4⟩:=bind_some h_4
  refine aF (rU hr_6) rfl hb132 rfl rfl rfl rfl wz ?_
  rcases aj h_4 with⟨hc_7,h_4⟩|⟨hc_7,h_4⟩
  ·refine aB rfl hc_7 wz (aJ (vS y_2) wa rfl ?_)
   obtain ⟨r_8,hr_9,h_4⟩:=bind_some h_4
   refine aF (rU hr_9) rfl hb132 rfl rfl rfl rfl wa (aJ (vB (!r_8)) wa rfl (aa (vB (!r_8)) ?_))
   rcases aj h_4 with⟨hc_10,h_4⟩|⟨hc_10,h_4⟩
   ·refine aB rfl hc_10 wz (af (af (af (aa (vB true) (aa (vB true) (ah ?_))))))
    obtain rfl:=ae h_4
    exact cu
   ·refine aB rfl hc_10 wz (aJ (vS x_1) wa rfl (aJ (vS y_2) wa rfl (aJ (vB (sLt x_1 y_2)) wa rfl (aa (vB (sLt x_1 y_2)) (aa (vB (sLt x_1 y_2)) (ah ?_))))))
    obtain rfl:=ae h_4
    exact cu
  ·refine aB rfl hc_7 wz (af (af (af (aa (vB false) (aa (vB false) (aJ (vS x_1) wa rfl (aJ (vS y_2) wa rfl (aJ (vB (sLt x_1 y_2)) wa rfl (aa (vB (sLt x_1 y_2)) (aa (vB (sLt x_1 y_2)) (ah ?_)))))))))))
   obtain rfl:=ae h_4
   exact cu
 ·rintro ⟨⟩ _ sl_ H_ hp_ hq_
  refine aN _ hp_ hq_ ?_
  obtain rfl:=ae hF
  exact aA (aK [(vB v_3)] ⟨rfl,trivial⟩)
theorem l8 {data_1:(List ByteArray)} {a_2:Int} {b_3:Int} {r:(List ByteArray)} (hF:dh data_1 a_2 b_3=some r) :
  FnM Tryz.prog 90 [(dV (aD 0) 1 data_1),(vI a_2),(vI b_3)] (([]:List Box)++gI 1 eS data_1) (.tup []) (([]:List Box).map some++gT data_1 (gB 1 eS r)):=by
 refine FnM.of_wHv ⟨Tryz.prog,49,[],[]⟩ rfl Tryz.func90 rfl rfl (lb_ rfl) (by kernel_rfl) ?_
 unfold dh at hF
 refine ai (aa (vI a_2) (aa (vI (w64 (a_2+1))) (aa (vI (w64 (a_2+1))) (ah ?_))))
 obtain ⟨o_12,hj_13,hF⟩:=bind_some hF
 obtain ⟨nq_50,hj_13⟩:=dw hj_13
 refine eZ (λ(s_9:(List ByteArray)×Int)=>[]) (λ(s_9:(List ByteArray)×Int)=>[((aD 0),gB 1 eS s_9.1)]) (λ(k_4:Nat)=>(λ(s_9:(List ByteArray)×Int)=>[(0,(dV (aD 0) 1 s_9.1)),(1,(vI a_2)),(2,(vI b_3)),(6,(vI s_9.2))])) (λs=>bT b_3 a_2 s) o_12 nq_50 (data_1,(w64 (a_2+1))) hj_13 rfl (aH rfl) ?_ ?_
 ·rintro ⟨k_4,s_9⟩ hL_11
  dsimp only at hL_11
  cases k_4 with
  | zero=>cases hL_11
  | succ k_4 =>
   obtain ⟨c_,hc_10,hL_11⟩:=bind_some hL_11
   unfold bT at hc_10
   refine ak (ai (aa (vI s_9.2) (aa (vI b_3) (aa (vB (decide (s_9.2<b_3))) (ah ?_)))))
   rcases aj hc_10 with⟨hc_14,hc_10⟩|⟨hc_14,hc_10⟩
   ·refine ay rfl hc_14 (av (ak (aL (ai (aa (vI s_9.2) (aa (vI s_9.2) (ah ?_)))))))
    obtain ⟨o_23,hj_24,hc_10⟩:=bind_some hc_10
    obtain ⟨nq_49,hj_24⟩:=dw hj_24
    refine eZ (λ(s_20:(List ByteArray)×Int)=>[(0,(dV (aD 0) 1 s_20.1)),(1,(vI a_2)),(2,(vI b_3)),(6,(vI s_9.2))]) (λ(s_20:(List ByteArray)×Int)=>[((aD 0),gB 1 eS s_20.1)]) (λ(k_15:Nat)=>(λ(s_20:(List ByteArray)×Int)=>[(0,(dV (aD 0) 1 s_20.1)),(1,(vI a_2)),(2,(vI b_3)),(6,(vI s_9.2)),(7,(vI s_20.2))])) (λs=>bR a_2 s) o_23 nq_49 (s_9.1,s_9.2) hj_24 rfl (aH rfl) ?_ ?_
    ·rintro ⟨k_15,s_20⟩ hL_22
     dsimp only at hL_22
     cases k_15 with
     | zero=>cases hL_22
     | succ k_15 =>
      obtain ⟨c_,hc_21,hL_22⟩:=bind_some hL_22
      unfold bR at hc_21
      refine ak (ak ?_)
      obtain ⟨v_25,h_26,hc_21⟩:=bind_some hc_21
      refine aP [(0,(dV (aD 0) 1 s_20.1)),(1,(vI a_2)),(2,(vI b_3)),(6,(vI s_9.2)),(7,(vI s_20.2)),(30,(vB v_25))] [((aD 0),gB 1 eS s_20.1)] ?_ ?_
      ·refine bC (aa (vI s_20.2) (aa (vI a_2) (aa (vB (decide (s_20.2>a_2))) ?_)))
       rcases aj h_26 with⟨hc_27,h_26⟩|⟨hc_27,h_26⟩
       ·refine aB rfl hc_27 wz (aJ (dV (aD 0) 1 s_20.1) wa rfl (aJ (vI s_20.2) wa rfl ?_))
        obtain ⟨_,hi_28,h_26⟩:=bind_some h_26
        refine iP nM rfl rfl (iV hi_28) (fD hi_28) wa ?_
        obtain ⟨e_29,hy_30,h_26⟩:=bind_some h_26
        refine jr 7 0 (.inr (by kernel_rfl)) (λ_ _ ag=>trivial) sz9 ag9 rfl rfl hy_30 (vS e_29) rfl wa (aJ (dV (aD 0) 1 s_20.1) wa rfl (aJ (vI s_20.2) wa rfl (aJ (vI (w64 (s_20.2-1))) wa rfl ?_)))
        obtain ⟨_,hi_31,h_26⟩:=bind_some h_26
        refine iP nM rfl rfl (iV hi_31) (fD hi_31) wa ?_
        obtain ⟨e_32,hy_33,h_26⟩:=bind_some h_26
        refine jr 12 0 (.inr (by kernel_rfl)) (λ_ _ ag=>⟨.inl ⟨rfl,rfl⟩,trivial⟩) sz9 ag9 rfl rfl hy_33 (vS e_32) rfl wa ?_
        obtain ⟨r_34,hr_35,h_26⟩:=bind_some h_26
        refine aF (zV hr_35) rfl hb96 rfl rfl rfl rfl wa (aa (vB r_34) (ah ?_))
        obtain rfl:=ae h_26
        exact cu
       ·refine aB rfl hc_27 wz (af (af (af (af (af (af (af (af (af (af (aa (vB false) (ah ?_))))))))))))
        obtain rfl:=ae h_26
        exact cu
      ·rintro ⟨⟩ _ sl_ H_ hp_ hq_
       refine aN _ hp_ hq_ ?_
       rcases aj hc_21 with⟨hc_36,hc_21⟩|⟨hc_36,hc_21⟩
       ·refine ay rfl hc_36 (av (ak (aL (bC (aa (dV (aD 0) 1 s_20.1) (aa (vI s_20.2) (aa (dV (aD 0) 1 s_20.1) (aa (vI s_20.2) (aa (vI (w64 (s_20.2-1))) (aa (dV (aD 0) 1 s_20.1) (aa (vI s_20.2) (aa (vI (w64 (s_20.2-1))) ?_))))))))))))
        obtain ⟨_,hi_37,hc_21⟩:=bind_some hc_21
        refine iP nM rfl rfl (iV hi_37) (fD hi_37) wz ?_
        obtain ⟨e_38,hy_39,hc_21⟩:=bind_some hc_21
        refine jr 9 0 (.inr (by kernel_rfl)) (λ_ _ ag=>trivial) sz9 ag9 rfl rfl hy_39 (vS e_38) rfl wz (aa (dV (aD 0) 1 s_20.1) (aa (vI s_20.2) ?_))
        obtain ⟨_,hi_40,hc_21⟩:=bind_some hc_21
        refine iP nM rfl rfl (iV hi_40) (fD hi_40) wz ?_
        obtain ⟨e_41,hy_42,hc_21⟩:=bind_some hc_21
        refine jr 13 0 (.inr (by kernel_rfl)) (λ_ _ ag=>⟨.inl ⟨rfl,rfl⟩,trivial⟩) sz9 ag9 rfl rfl hy_42 (vS e_41) rfl wz ?_
        obtain ⟨_,hi_43,hc_21⟩:=bind_some hc_21
        refine iP nM rfl rfl (iV hi_43) (fD hi_43) wz ?_
        obtain ⟨e_44,hy_45,hc_21⟩:=bind_some hc_21
        refine tX 15 (.inr (by kernel_rfl)) (λ_ _ ag=>⟨.inr (.inr (by kernel_rfl)),⟨.inr (.inr (by kernel_rfl)),trivial⟩⟩) 0 sz9 rfl rfl hy_45 e_38 rfl wz (dH (v':=(dV (aD 0) 1 (s_20.1.set (0+(s_20.2).toNat) e_38))) 0 rfl (bL (by simp)) (dH (v':=(dV (aD 0) 1 (s_20.1.set (0+(s_20.2).toNat) e_38))) 33 rfl (bL (by simp)) (dH (v':=(dV (aD 0) 1 (s_20.1.set (0+(s_20.2).toNat) e_38))) 35 rfl (bL (by simp)) (dH (v':=(dV (aD 0) 1 (s_20.1.set (0+(s_20.2).toNat) e_38))) 38 rfl (bL (by simp)) (dH (v':=(dV (aD 0) 1 (s_20.1.set (0+(s_20.2).toNat) e_38))) 43 rfl (bL (by simp)) ?_)))))
        obtain ⟨_,hi_46,hc_21⟩:=bind_some hc_21
        refine iP nM rfl rfl (iV hi_46) (fD hi_46) wz ?_
        obtain ⟨e_47,hy_48,hc_21⟩:=bind_some hc_21
        refine tX 17 (.inr (by kernel_rfl)) (λ_ _ ag=>⟨.inr (.inr (by kernel_rfl)),⟨.inr (.inr (by kernel_rfl)),⟨.inr (.inr (by kernel_rfl)),trivial⟩⟩⟩) 0 sz9 rfl rfl hy_48 e_41 rfl wz (dH (v':=(dV (aD 0) 1 ((s_20.1.set (0+(s_20.2).toNat) e_38).set (0+((w64 (s_20.2-1))).toNat) e_41))) 0 rfl (bL (by simp)) (dH (v':=(dV (aD 0) 1 ((s_20.1.set (0+(s_20.2).toNat) e_38).set (0+((w64 (s_20.2-1))).toNat) e_41))) 33 rfl (bL (by simp)) (dH (v':=(dV (aD 0) 1 ((s_20.1.set (0+(s_20.2).toNat) e_38).set (0+((w64 (s_20.2-1))).toNat) e_41))) 35 rfl (bL (by simp)) (dH (v':=(dV (aD 0) 1 ((s_20.1.set (0+(s_20.2).toNat) e_38).set (0+((w64 (s_20.2-1))).toNat) e_41))) 38 rfl (bL (by simp)) (dH (v':=(dV (aD 0) 1 ((s_20.1.set (0+(s_20.2).toNat) e_38).set (0+((w64 (s_20.2-1))).toNat) e_41))) 43 rfl (bL (by simp)) (ah (au (aa (vI s_20.2) (aa (vI (w64 (s_20.2-1))) (aa (vI (w64 (s_20.2-1))) (ah ?_)))))))))))
        obtain rfl:=ae hc_21
        exact aU (k_15,(((s_20.1.set (0+(s_20.2).toNat) e_38).set (0+((w64 (s_20.2-1))).toNat) e_41),(w64 (s_20.2-1)))) hL_22 (ls_ _) rfl (aH rfl)
       ·refine ax rfl hc_36 (aW ?_)
        obtain rfl:=ae hc_21
        obtain rfl:=ae hL_22
        exact aS ((s_20.1,s_20.2)) rfl rfl (aH rfl)
    ·rintro s_20 ho_ sl_ H_ hp_ hq_
     subst ho_
     refine aN _ hp_ hq_ (au (aa (vI s_9.2) (aa (vI (w64 (s_9.2+1))) (aa (vI (w64 (s_9.2+1))) (ah ?_)))))
     obtain rfl:=ae hc_10
     exact aU (k_4,(s_20.1,(w64 (s_9.2+1)))) hL_11 (ls_ _) rfl (aH rfl)
   ·refine ax rfl hc_14 (aW ?_)
    obtain rfl:=ae hc_10
    obtain rfl:=ae hL_11
    exact aS ((s_9.1,s_9.2)) rfl rfl (aH rfl)
 ·rintro s_9 ho_ sl_ H_ hp_ hq_
  subst ho_
  show qZ _ _ _ _ _ _ _ _
  obtain rfl:=ae hF
  exact uy (H0:=([((aD 0),gB 1 eS s_9.1)]:Hp)) (sl':=envS []) hq_ (xh (bs:=([]:List Box)) (os:=([]:List Box)) (xs:=data_1) (o:=gB 1 eS s_9.1) (.inl rfl) [] trivial rfl rfl rfl rfl rfl (by kernel_rfl) jX rfl)
theorem oJ {data_1:(List ByteArray)} {a_2:Int} {b_3:Int} {limit_4:Int} {r:(List ByteArray)} (hF:dR data_1 a_2 b_3 limit_4=some r) :
  FnM Tryz.prog 58 [(dV (aD 0) 1 data_1),(vI a_2),(vI b_3),(vI limit_4)] (([]:List Box)++gI 1 eS data_1) (.tup []) (([]:List Box).map some++gT data_1 (gB 1 eS r)):=by
 refine FnM.of_wHv ⟨Tryz.prog,134,[],[]⟩ rfl Tryz.func58 rfl rfl (lb_ rfl) (by kernel_rfl) ?_
 unfold dR at hF
 refine ai (aa (vB true) (ah (ai (aa (vB true) (ah ?_)))))
 obtain ⟨o_13,hj_14,hF⟩:=bind_some hF
 obtain ⟨nq_20,hj_14⟩:=dw hj_14
 refine eZ (λ(s_10:Unit)=>[]) (λ(s_10:Unit)=>[((aD 0),gB 1 eS data_1)]) (λ(k_5:Nat)=>(λ(s_10:Unit)=>[(0,(dV (aD 0) 1 data_1)),(1,(vI a_2)),(2,(vI b_3)),(3,(vI limit_4)),(8,(vB true)),(9,(vB true))])) (λs=>dD b_3 a_2 data_1 limit_4 s) o_13 nq_20 () hj_14 rfl (aH rfl) ?_ ?_
 ·rintro ⟨k_5,s_10⟩ hL_12
  dsimp only at hL_12
  cases k_5 with
  | zero=>cases hL_12
  | succ k_5 =>
   obtain ⟨c_,hc_11,hL_12⟩:=bind_some hL_12
   unfold dD at hc_11
   refine aL (ai (aa (vI b_3) (aa (vI a_2) (aa (vI (w64 (b_3-a_2))) (aa (vI (w64 (b_3-a_2))) (ah (ak (ai (aa (vI (w64 (b_3-a_2))) (aa (vB (decide ((w64 (b_3-a_2))<=12))) (ah ?_)))))))))))
   rcases aj hc_11 with⟨hc_15,hc_11⟩|⟨hc_15,hc_11⟩
   ·refine ay rfl hc_15 (ai (aa (dV (aD 0) 1 data_1) (aa (vI a_2) (aa (vI b_3) ?_))))
    obtain ⟨r_16,hr_17,hc_11⟩:=bind_some hc_11
    obtain ⟨_,hs_18,hc_11⟩:=bind_some hc_11
    replace hs_18:=kQ hs_18
    refine mh 0 [] 0 0 il ft (l8 hr_17) rfl hb90 rfl rfl rfl (by kernel_rfl) rfl (.inr (.inl rfl)) rfl (by kernel_rfl) (by kernel_rfl) (by kernel_rfl) (by kernel_rfl) rfl (by decide) (by kernel_rfl) jX (vZ hs_18) wz ([((aD 0),gB 1 eS r_16)]:Hp) (by kernel_rfl) (dH (v':=(dV (aD 0) 1 r_16)) 0 rfl (bL hs_18.symm) (dH (v':=(dV (aD 0) 1 r_16)) 24 rfl (bL hs_18.symm) (ah ?_)))
    obtain rfl:=ae hc_11
    obtain rfl:=ae hL_12
    obtain rfl:=ae hF
    exact aA (xh (bs:=([]:List Box)) (os:=([]:List Box)) (xs:=data_1) (o:=gB 1 eS r_16) (.inr rfl) [] trivial rfl rfl rfl rfl rfl (by kernel_rfl) jX rfl)
   ·refine ax rfl hc_15 (av (ak (ai (aa (vI limit_4) (aa (vB (limit_4==0)) (ah ?_))))))
    rcases aj hc_11 with⟨hc_19,hc_11⟩|⟨hc_19,hc_11⟩
    ·refine ay rfl hc_19 (ai (aa (dV (aD 0) 1 data_1) (aa (vI a_2) (aa (vI b_3) ?_))))
     cases hc_11
    ·refine ax rfl hc_19 (av (ak (ai (aa (vB true) (aa (vB false) (ah (ax rfl rfl (av (ai (aa (dV (aD 0) 1 data_1) (aa (vI a_2) (aa (vI b_3) ?_))))))))))))
     cases hc_11
 ·rintro s_10 ho_ sl_ H_ hp_ hq_
  subst ho_
  show qZ _ _ _ _ _ _ _ _
  obtain rfl:=ae hF
  exact uy (H0:=([((aD 0),gB 1 eS data_1)]:Hp)) (sl':=envS []) hq_ (xh (bs:=([]:List Box)) (os:=([]:List Box)) (xs:=data_1) (o:=gB 1 eS data_1) (.inl rfl) [] trivial rfl rfl rfl rfl rfl (by kernel_rfl) jX rfl)
theorem pV {x_1:(List ByteArray)} {r:(List ByteArray)} (hF:eU x_1=some r) :
  FnM Tryz.prog 38 [(dV (aD 0) 1 x_1)] (([]:List Box)++gI 1 eS x_1) (.tup []) (([]:List Box).map some++gT x_1 (gB 1 eS r)):=by
 refine FnM.of_wHv ⟨Tryz.prog,11,[],[]⟩ rfl Tryz.func38 rfl rfl (lb_ rfl) (by kernel_rfl) ?_
 unfold eU at hF
 refine ai (aa (dV (aD 0) 1 x_1) (BN uT rfl wz (aa (vI (x_1.length:Int)) (ah (au (aa (dV (aD 0) 1 x_1) (aa (vI (x_1.length:Int)) (aa (vI (x_1.length:Int)) (yC un3 Ov rfl wz ?_)))))))))
 obtain ⟨r_2,hr_3,hF⟩:=bind_some hF
 refine aF (nG hr_3) rfl hb45 rfl rfl rfl rfl wz ?_
 obtain ⟨r_4,hr_5,hF⟩:=bind_some hF
 obtain ⟨_,hs_6,hF⟩:=bind_some hF
 replace hs_6:=kQ hs_6
 refine mh 0 [] 0 0 il ft (oJ hr_5) rfl hb58 rfl rfl rfl (by kernel_rfl) rfl (.inr (.inl rfl)) rfl (by kernel_rfl) (by kernel_rfl) (by kernel_rfl) (by kernel_rfl) rfl (by decide) (by kernel_rfl) jX (vZ hs_6) wz ([((aD 0),gB 1 eS r_4)]:Hp) (by kernel_rfl) (dH (v':=(dV (aD 0) 1 r_4)) 0 rfl (bL hs_6.symm) (dH (v':=(dV (aD 0) 1 r_4)) 3 rfl (bL hs_6.symm) (dH (v':=(dV (aD 0) 1 r_4)) 5 rfl (bL hs_6.symm) (ah ?_))))
 show qZ _ _ _ _ _ _ _ _
 obtain rfl:=ae hF
 exact xh (bs:=([]:List Box)) (os:=([]:List Box)) (xs:=x_1) (o:=gB 1 eS r_4) (.inl rfl) [] trivial rfl rfl rfl rfl rfl (by kernel_rfl) jX rfl
theorem xH {l_1:(List Alert)} {id_2:ByteArray} {r:(List ByteArray)×Int} (hF:lK l_1 id_2=some r) :
  FnM Tryz.prog 15 [(vL Alert.enc l_1),(vS id_2)] [] (.tup [(vL eS r.1),(vI r.2)]) []:=by
 refine FnM.of_wH ⟨Tryz.prog,119,[78],[]⟩ rfl Tryz.func15 rfl rfl (lb_ rfl) (by kernel_rfl) ?_
 unfold lK at hF
 refine ai (gQ 0 (.inl rfl) [(vS id_2)] rfl rfl wz (λn_3=>aa .nil (aa (vI 0) (ah (ak (ai (aa (vL Alert.enc l_1) ?_)))))))
 obtain ⟨r_4,hr_5,hF⟩:=bind_some hF
 refine aF (jQ hr_5) rfl hb25 rfl rfl rfl rfl wz (aa (vI r_4) (ah (ai (aa (vI r_4) (aa (vB (r_4 != 0)) (ah ?_))))))
 rcases aj hF with⟨hc_6,hF⟩|⟨hc_6,hF⟩
 ·refine ay rfl hc_6 (ai (aa (vI r_4) (aa .nil (aa (vI r_4) (ah ?_)))))
  obtain rfl:=ae hF
  exact aA (aK [.nil,(vI r_4)] ⟨rfl,⟨rfl,trivial⟩⟩)
 ·refine ax rfl hc_6 (av (ai (aa (vL Alert.enc l_1) (aa (.fn 36 [(.ref n_3 0 0)]) ?_))))
  obtain ⟨r_7,hr_8,hF⟩:=bind_some hF
  refine gu 0 [0] il ft (fw (gid:=36) (caps:=[.ref (aD 0) 0 0]) (Sin:=[(.cells 1 [(vS id_2)])]) (λ_ _ h_=>AA h_) hb36 ⟨rfl,rfl⟩ (by kernel_rfl) (Jb (by kernel_rfl)) (DR (by kernel_rfl)) hr_8) rfl hb35 rfl (by kernel_rfl) (by kernel_rfl) (by kernel_rfl) (by kernel_rfl) (by kernel_rfl) (by kernel_rfl) (by kernel_rfl) (by decide) (by kernel_rfl) wz (vI r_7) (by kernel_rfl) ([(n_3,some (.cells 1 [(vS id_2)]))]:Hp) (by kernel_rfl) (aa (vI r_7) (ah (ak (ai (aa (vI r_7) (aa (vB (decide (r_7<0))) (ah ?_)))))))
  rcases aj hF with⟨hc_10,hF⟩|⟨hc_10,hF⟩
  ·refine ay rfl hc_10 (ai (aa .nil (aa (vI 8) (ah ?_))))
   obtain rfl:=ae hF
   exact aA (aK [.nil,(vI 8)] ⟨rfl,⟨rfl,trivial⟩⟩)
  ·refine ax rfl hc_10 (av (ai (aa (vL Alert.enc l_1) (bG tq rfl wz ?_))))
   obtain ⟨m_11,hm_12,hF⟩:=bind_some hF
   obtain ⟨_,hz_13,hF⟩:=bind_some hF
   refine Pk (α:=Int) (enc:=eI) (sz:=1) 0 (.inl rfl) el70 DD z22 by22 rfl rfl hm_12 (nzI_ne hz_13) wz (λn_14 ns_15=>aa (.vs n_14 1 0 m_11) (ah (ak (ai (aa (vL Alert.enc l_1) (bG tq rfl wz (aa (vI 0) (ah ?_))))))))
   obtain ⟨o_26,hj_27,hF⟩:=bind_some hF
   obtain ⟨hn_20,hj_27⟩:=aX hj_27
   refine ic (σ:=(List (List Int))) (N:=(Nat->Nm)) (λp=>(λ(s_21:(List (List Int))) (ns_23:(Nat->Nm))=>([(0,(vL Alert.enc l_1)),(7,(vI r_7)),(8,(.vs n_14 1 0 m_11))]:SL_)) p.1 p.2) (λp=>(λ(s_21:(List (List Int))) (ns_23:(Nat->Nm))=>(([(n_3,some (.cells 1 [(vS id_2)])),(n_14,some (.cells 1 (dB 1 ns_23 s_21)))]:Hp)++(eX 1 eI ns_23 s_21))) p.1 p.2) (λ(k_16:Nat)=>(λp=>(λ(s_21:(List (List Int))) (ns_23:(Nat->Nm))=>([(0,(vL Alert.enc l_1)),(7,(vI r_7)),(8,(.vs n_14 1 0 m_11)),(32,(vL Alert.enc l_1)),(33,(vI (l_1.length:Int))),(34,(vI (k_16:Int)))]:SL_)) p.1 p.2)) (λk x s=>jM l_1 m_11 k x s) o_26 l_1 ((List.replicate m_11 ([]:List Int)),ns_15) hj_27 rfl (nL (C1:=([(n_3,some (.cells 1 [(vS id_2)])),(n_14,some (.cells 1 (dB 1 ns_15 (List.replicate m_11 ([]:List Int)))))]:Hp)) (T:=(eX 1 eI ns_15 (List.replicate m_11 ([]:List Int)))) [0,1] (by decide) rfl rfl) ?_ ?_
   ·rintro ⟨k_16,l_17,s_21,ns_23⟩ ⟨hL_25,hD_19⟩
    dsimp only at hL_25 hD_19
    cases l_17 with
    | nil =>
     obtain rfl:=ae hL_25
     refine ai (aa (vB (decide ((k_16:Int)<(l_1.length:Int)))) (ah ?_))
     refine ak (ax rfl (drop_nil hD_19) (aW ?_))
     exact aS (s_21,ns_23) rfl rfl (nL (C1:=([(n_3,some (.cells 1 [(vS id_2)])),(n_14,some (.cells 1 (dB 1 ns_23 s_21)))]:Hp)) (T:=(eX 1 eI ns_23 s_21)) [0,1] (by decide) rfl rfl)
    | cons x_18 l_17 =>
     obtain ⟨c_,hc_24,hL_25⟩:=bind_some hL_25
     refine ai (aa (vB (decide ((k_16:Int)<(l_1.length:Int)))) (ah ?_))
     refine ak (ay rfl (aZ hD_19) (av ?_))
     unfold jM at hc_24
     refine ak (aL (ai (aa (vI (k_16:Int)) (dY mo rfl rfl (bz hD_19) rfl wz (bI eO jo rfl (.d (.agg (Alert.enc x_18))) rfl wz (dC 0 (.inl rfl) z32 rfl wz (λn_28=>Im (C0:=([(n_3,some (.cells 1 [(vS id_2)])),(n_14,some (.cells 1 (dB 1 ns_23 s_21)))]:Hp)) (T:=(eX 1 eI ns_23 s_21)) (X:=([(n_28,some (.cells 9 [(vS (⟨#[]⟩:ByteArray)),(vS (⟨#[]⟩:ByteArray)),(vI 0),.nil,(vI 0),(vI 0),(vI 0),.nil,(vS (⟨#[]⟩:ByteArray))]))]:Hp)) (aa (vI (k_16:Int)) (fB 0 il ft 2 eO rfl rfl (Alert.v x_18) rfl wz (ah (ai (aG nJ rfl 3 rfl wz (aC 0 2 il ft xK zW rfl rfl (vL eS x_18.Refs) rfl wz (bG uT rfl wz (aa (vI 0) (ah ?_))))))))))))))))
     obtain ⟨o_39,hj_40,hc_24⟩:=bind_some hc_24
     obtain ⟨hn_33,hj_40⟩:=aX hj_40
     refine ic (σ:=(List (List Int))) (N:=(Nat->Nm)) (λp=>(λ(s_34:(List (List Int))) (ns_36:(Nat->Nm))=>([(0,(vL Alert.enc l_1)),(7,(vI r_7)),(8,(.vs n_14 1 0 m_11)),(32,(vL Alert.enc l_1)),(33,(vI (l_1.length:Int))),(34,(vI (k_16:Int)))]:SL_)) p.1 p.2) (λp=>(λ(s_34:(List (List Int))) (ns_36:(Nat->Nm))=>(([(n_3,some (.cells 1 [(vS id_2)])),(n_14,some (.cells 1 (dB 1 ns_36 s_34))),(n_28,some (.cells 9 (Alert.v x_18)))]:Hp)++(eX 1 eI ns_36 s_34))) p.1 p.2) (λ(k_29:Nat)=>(λp=>(λ(s_34:(List (List Int))) (ns_36:(Nat->Nm))=>([(0,(vL Alert.enc l_1)),(7,(vI r_7)),(8,(.vs n_14 1 0 m_11)),(9,(vI (k_16:Int))),(10,(.ref n_28 0 0)),(32,(vL Alert.enc l_1)),(33,(vI (l_1.length:Int))),(34,(vI (k_16:Int))),(40,(vL eS x_18.Refs)),(41,(vI (x_18.Refs.length:Int))),(42,(vI (k_29:Int)))]:SL_)) p.1 p.2)) (λk x s=>jN l_1 x_18 m_11 k_16 k x s) o_39 x_18.Refs (s_21,ns_23) hj_40 rfl (nL (C1:=([(n_3,some (.cells 1 [(vS id_2)])),(n_14,some (.cells 1 (dB 1 ns_23 s_21))),(n_28,some (.cells 9 (Alert.v x_18)))]:Hp)) (T:=(eX 1 eI ns_23 s_21)) [0,1,2] (by decide) rfl rfl) ?_ ?_
     ·rintro ⟨k_29,l_30,s_34,ns_36⟩ ⟨hL_38,hD_32⟩
      dsimp only at hL_38 hD_32
      cases l_30 with
      | nil =>
       obtain rfl:=ae hL_38
       refine ai (aa (vB (decide ((k_29:Int)<(x_18.Refs.length:Int)))) (ah ?_))
       refine ak (ax rfl (drop_nil hD_32) (aW ?_))
       exact aS (s_34,ns_36) rfl rfl (nL (C1:=([(n_3,some (.cells 1 [(vS id_2)])),(n_14,some (.cells 1 (dB 1 ns_36 s_34))),(n_28,some (.cells 9 (Alert.v x_18)))]:Hp)) (T:=(eX 1 eI ns_36 s_34)) [0,1,2] (by decide) rfl rfl)
      | cons x_31 l_30 =>
       obtain ⟨c_,hc_37,hL_38⟩:=bind_some hL_38
       refine ai (aa (vB (decide ((k_29:Int)<(x_18.Refs.length:Int)))) (ah ?_))
       refine ak (ay rfl (aZ hD_32) (av ?_))
       unfold jN at hc_37
       refine ak (aL (ai (dY nM rfl rfl (bz hD_32) rfl wz (bI sz9 ag9 rfl (vS x_31) rfl wz (aa (vS x_31) (ah (ai (aa (vL Alert.enc l_1) (aC 0 2 il ft eO jo rfl rfl (.d (.agg (Alert.enc x_18))) rfl wz (aa (vS x_31) ?_))))))))))
       obtain ⟨r_41,hr_42,hc_37⟩:=bind_some hc_37
       refine aF (zw hr_42) rfl hb37 rfl rfl rfl rfl wz (aa (vI r_41) (ah (ai (aa (vI r_41) (aa (vB (decide (r_41>=0))) (ah ?_))))))
       obtain ⟨v_43,h_44,hc_37⟩:=bind_some hc_37
       refine jW (β:=(Nat->Nm)) (λ(ns_45:(Nat->Nm))=>([(0,(vL Alert.enc l_1)),(7,(vI r_7)),(8,(.vs n_14 1 0 m_11)),(9,(vI (k_16:Int))),(10,(.ref n_28 0 0)),(32,(vL Alert.enc l_1)),(33,(vI (l_1.length:Int))),(34,(vI (k_16:Int))),(40,(vL eS x_18.Refs)),(41,(vI (x_18.Refs.length:Int))),(42,(vI (k_29:Int)))]:SL_)) (λ(ns_45:(Nat->Nm))=>(([(n_3,some (.cells 1 [(vS id_2)])),(n_14,some (.cells 1 (dB 1 ns_45 v_43))),(n_28,some (.cells 9 (Alert.v x_18)))]:Hp)++(eX 1 eI ns_45 v_43))) (λ_=>True) ?_ ?_
       ·rcases aj h_44 with⟨hc_46,h_44⟩|⟨hc_46,h_44⟩
        ·refine ay rfl hc_46 (bC (aa (.vs n_14 1 0 m_11) (aa (vI r_41) (aa (.vs n_14 1 0 m_11) (aa (vI (k_16:Int)) (aa (.vs n_14 1 0 m_11) (aa (vI r_41) ?_)))))))
         obtain ⟨_,hi_47,h_44⟩:=bind_some h_44
         refine vQ Qn rfl rfl (zB hi_47) (uU hi_47) wz ?_
         obtain ⟨r_48,hr_49,h_44⟩:=bind_some h_44
         refine K9 7 1 (.inr (by kernel_rfl)) (λ_ _ ag=>trivial) DD Jf rfl rfl hr_49 wz (aa (vI (k_16:Int)) (eT (([(k_16:Int)]:List Int).map eI) ni BG rfl rfl rfl rfl rfl wz ?_))
         obtain ⟨a_50,hz_51,h_44⟩:=bind_some h_44
         refine PE (H0:=(([(n_3,some (.cells 1 [(vS id_2)])),(n_14,some (.cells 1 (dB 1 ns_36 s_34))),(n_28,some (.cells 9 (Alert.v x_18)))]:Hp)++(eX 1 eI ns_36 s_34))) rfl (nI (P:=n_14≠(ns_36 (0+(r_41).toNat))) (λ_ _ ag=>Ls ag (j:=1) rfl hr_49) (λhk_53=>QE 10 (.inr (by kernel_rfl)) (λ_ _ ag=>⟨.inr (.inr (by kernel_rfl)),trivial⟩) EK EK sz3 z3 rfl (by decide) by3 (by decide) (λ_=>rfl) rfl hr_49 rfl hz_51 wz (λn_52=>nI (P:=n_14≠n_52) (λ_ _ ag=>MW ag (j:=1) rfl hr_49) (λhk_54=>aa (.vs n_14 1 0 m_11) (aa (vI (k_16:Int)) ?_)))))
         obtain ⟨_,hi_55,h_44⟩:=bind_some h_44
         refine vQ Qn rfl rfl (zB hi_55) (uU hi_55) wz ?_
         obtain ⟨_,hne_56,h_44⟩:=bind_some h_44
         replace hne_56:=neN_ne hne_56
         obtain ⟨r_57,hr_58,h_44⟩:=bind_some h_44
         refine K9 14 1 (.inr (by kernel_rfl)) (λ_ _ ag=>⟨.inl ⟨rfl,rfl⟩,⟨.inr (.inl (dis2 hk_53 hk_54)),trivial⟩⟩) DD Jf rfl rfl hr_58 wz ?_
         have hr_59:=row_set (z:=a_50) hne_56 hr_58
         refine dH (v':=(gV ((uP ns_36 (0+(r_41).toNat) n_52) (0+((k_16:Int)).toNat)) 1 r_57)) 66 rfl (gV_row hne_56) (aa (vI r_41) (eT (([r_41]:List Int).map eI) ni BG rfl rfl rfl rfl rfl wz ?_))
         obtain ⟨a_60,hz_61,h_44⟩:=bind_some h_44
         refine PE (H0:=(([(n_3,some (.cells 1 [(vS id_2)])),(n_14,some (.cells 1 (dB 1 ns_36 s_34))),(n_28,some (.cells 9 (Alert.v x_18)))]:Hp)++(eX 1 eI (uP ns_36 (0+(r_41).toNat) n_52) (s_34.set (0+(r_41).toNat) a_50)))) rfl (nI (P:=n_14≠((uP ns_36 (0+(r_41).toNat) n_52) (0+((k_16:Int)).toNat))) (λ_ _ ag=>Ls ag (j:=1) rfl hr_59) (λhk_63=>QE 17 (.inr (by kernel_rfl)) (λ_ _ ag=>⟨.inr (.inr (by kernel_rfl)),⟨.inr (.inr (by kernel_rfl)),⟨.inr (.inr (by kernel_rfl)),trivial⟩⟩⟩) EK EK sz3 z3 rfl (by decide) by3 (by decide) (λ_=>rfl) rfl hr_59 rfl hz_61 wz (λn_62=>nI (P:=n_14≠n_62) (λ_ _ ag=>MW ag (j:=1) rfl hr_59) (λhk_64 => ?_))))
         obtain ⟨_,hi_65,h_44⟩:=bind_some h_44
         refine vQ Qn rfl rfl (zB hi_65) (uU hi_65) wz ?_
         obtain ⟨r_66,hr_67,h_44⟩:=bind_some h_44
         refine h_gst 19 1 (.inr (by kernel_rfl)) (λ_ _ ag=>⟨.inr (.inr (by kernel_rfl)),⟨.inr (.inr (by kernel_rfl)),⟨.inr (.inr (by kernel_rfl)),⟨.inr (.inr (by kernel_rfl)),trivial⟩⟩⟩⟩) DD rfl rfl rfl (OY hr_67) wz ?_
         obtain ⟨_,hi_68,h_44⟩:=bind_some h_44
         refine vQ Qn rfl rfl (zB hi_68) (uU hi_68) wz ?_
         obtain ⟨r_69,hr_70,h_44⟩:=bind_some h_44
         refine h_gst 21 1 (.inr (by kernel_rfl)) (λ_ _ ag=>⟨.inr (.inr (by kernel_rfl)),⟨.inr (.inr (by kernel_rfl)),⟨.inr (.inr (by kernel_rfl)),⟨.inr (.inr (by kernel_rfl)),⟨.inr (.inr (by kernel_rfl)),trivial⟩⟩⟩⟩⟩) DD rfl rfl rfl (OY hr_70) wz (ah ?_)
         obtain rfl:=ae h_44
         exact aS (uP (uP ns_36 (0+(r_41).toNat) n_52) (0+((k_16:Int)).toNat) n_62) trivial rfl (nL (C1:=([(n_3,some (.cells 1 [(vS id_2)])),(n_14,some (.cells 1 (dB 1 (uP (uP ns_36 (0+(r_41).toNat) n_52) (0+((k_16:Int)).toNat) n_62) ((s_34.set (0+(r_41).toNat) a_50).set (0+((k_16:Int)).toNat) a_60)))),(n_28,some (.cells 9 (Alert.v x_18)))]:Hp)) (T:=(eX 1 eI (uP (uP ns_36 (0+(r_41).toNat) n_52) (0+((k_16:Int)).toNat) n_62) ((s_34.set (0+(r_41).toNat) a_50).set (0+((k_16:Int)).toNat) a_60))) [0,1,2] (by decide) rfl rfl)
        ·refine ax rfl hc_46 (av ?_)
         obtain rfl:=ae h_44
         exact aS ns_36 trivial rfl (nL (C1:=([(n_3,some (.cells 1 [(vS id_2)])),(n_14,some (.cells 1 (dB 1 ns_36 s_34))),(n_28,some (.cells 9 (Alert.v x_18)))]:Hp)) (T:=(eX 1 eI ns_36 s_34)) [0,1,2] (by decide) rfl rfl)
       ·rintro ns_45 _ sl_ H_ hp_ hq_
        refine aN _ hp_ hq_ (au (dZ (bn hD_32 hn_33) wz rfl (aa (vI ((k_29+1:Nat):Int)) (ah ?_))))
        obtain rfl:=ae hc_37
        exact aU (k_29+1,l_30,v_43,ns_45) ⟨hL_38,aR hD_32⟩ (ls_ _) rfl (nL (C1:=([(n_3,some (.cells 1 [(vS id_2)])),(n_14,some (.cells 1 (dB 1 ns_45 v_43))),(n_28,some (.cells 9 (Alert.v x_18)))]:Hp)) (T:=(eX 1 eI ns_45 v_43)) [0,1,2] (by decide) rfl rfl)
     ·rintro ⟨s_34,ns_36⟩ ho_ sl_ H_ hp_ hq_
      subst ho_
      refine aN _ hp_ hq_ (au (dZ (bn hD_19 hn_20) wz rfl (aa (vI ((k_16+1:Nat):Int)) (ah ?_))))
      obtain rfl:=ae hc_24
      exact aU (k_16+1,l_17,s_34,ns_36) ⟨hL_25,aR hD_19⟩ (ls_ _) rfl (nL (C1:=([(n_3,some (.cells 1 [(vS id_2)])),(n_14,some (.cells 1 (dB 1 ns_36 s_34))),(n_28,some (.cells 9 (Alert.v x_18)))]:Hp)) (T:=(eX 1 eI ns_36 s_34)) [0,1] (by decide) rfl rfl)
   ·rintro ⟨s_21,ns_23⟩ ho_ sl_ H_ hp_ hq_
    subst ho_
    refine aN _ hp_ hq_ (ai (Ip 0 (.inl rfl) wz (λn_71=>Im (C0:=([(n_3,some (.cells 1 [(vS id_2)])),(n_14,some (.cells 1 (dB 1 ns_23 s_21)))]:Hp)) (T:=(eX 1 eI ns_23 s_21)) (X:=([(n_71,some (bM (D.int .i64) D.bool ([]:List (Int×Bool))))]:Hp)) (aa (vI r_7) (QB (eq:=eqI) (kD:=(D.int .i64)) (vD:=D.bool) (es:=([]:List (Int×Bool))) (k:=r_7) (v:=true) 0 2 il ft (λ_ _=>rfl) mt72 (by kernel_rfl) rfl rfl rfl rfl wz (aa (.map n_71) (aa (.map n_71) (ah (ai (aa .nil (ah (ak (ai (aa (vI r_7) (h_litv 0 (.inl rfl) (([r_7]:List Int).map eI) ni BG rfl rfl rfl rfl rfl wz (λn_72=>Im (C0:=([(n_3,some (.cells 1 [(vS id_2)])),(n_14,some (.cells 1 (dB 1 ns_23 s_21))),(n_71,some (bM (D.int .i64) D.bool (pR eqI ([]:List (Int×Bool)) r_7 true)))]:Hp)) (T:=(eX 1 eI ns_23 s_21)) (X:=([(n_72,some (bV 1 eI ([r_7]:List Int)))]:Hp)) (aa (vV n_72 1 ([r_7]:List Int)) (ah (l6 (λn_79=>QF (C0:=([(n_3,some (.cells 1 [(vS id_2)])),(n_14,some (.cells 1 (dB 1 ns_23 s_21))),(n_71,some (bM (D.int .i64) D.bool (pR eqI ([]:List (Int×Bool)) r_7 true))),(n_72,some (bV 1 eI ([r_7]:List Int)))]:Hp)) (T:=(eX 1 eI ns_23 s_21)) (X:=([(n_79,gB 1 eS ([]:List ByteArray))]:Hp)) ?_))))))))))))))))))))
    obtain ⟨o_86,hj_87,hF⟩:=bind_some hF
    obtain ⟨nq_134,hj_87⟩:=dw hj_87
    refine EN (σ:=(List (Int×Bool))×(List Int)×(List ByteArray)×Nat) (N:=Nm×Nm) (λp=>(λ(s_78:(List (Int×Bool))×(List Int)×(List ByteArray)×Nat) (n_82:Nm) (n_83:Nm)=>([(15,(gV n_83 1 s_78.2.2.1))]:SL_)) p.1 p.2.1 p.2.2) (λp=>(λ(s_78:(List (Int×Bool))×(List Int)×(List ByteArray)×Nat) (n_82:Nm) (n_83:Nm)=>(([(n_3,some (.cells 1 [(vS id_2)])),(n_14,some (.cells 1 (dB 1 ns_23 s_21))),(n_71,some (bM (D.int .i64) D.bool s_78.1)),(n_82,some (bV 1 eI s_78.2.1)),(n_83,gB 1 eS s_78.2.2.1)]:Hp)++(eX 1 eI ns_23 s_21))) p.1 p.2.1 p.2.2) (λ(k_73:Nat)=>(λp=>(λ(s_78:(List (Int×Bool))×(List Int)×(List ByteArray)×Nat) (n_82:Nm) (n_83:Nm)=>([(0,(vL Alert.enc l_1)),(8,(.vs n_14 1 0 m_11)),(14,(.map n_71)),(15,(gV n_83 1 s_78.2.2.1)),(16,(qV n_82 1 s_78.2.1 s_78.2.2.2))]:SL_)) p.1 p.2.1 p.2.2)) (λs=>lW l_1 m_11 s_21 s) o_86 nq_134 (((pR eqI ([]:List (Int×Bool)) r_7 true),([r_7]:List Int),([]:List ByteArray),0),n_72,n_79) hj_87 rfl (nL (C1:=([(n_3,some (.cells 1 [(vS id_2)])),(n_14,some (.cells 1 (dB 1 ns_23 s_21))),(n_71,some (bM (D.int .i64) D.bool (pR eqI ([]:List (Int×Bool)) r_7 true))),(n_72,some (bV 1 eI ([r_7]:List Int))),(n_79,gB 1 eS ([]:List ByteArray))]:Hp)) (T:=(eX 1 eI ns_23 s_21)) [0,1,2,3,4] (by decide) rfl rfl) ?_ ?_
    ·rintro ⟨k_73,s_78,n_82,n_83⟩ hL_85
     dsimp only at hL_85
     cases k_73 with
     | zero=>cases hL_85
     | succ k_73 =>
      obtain ⟨c_,hc_84,hL_85⟩:=bind_some hL_85
      unfold lW at hc_84
      refine ak (ai (aa (qV n_82 1 s_78.2.1 s_78.2.2.2) (QR vJ rfl wz (aa (vB (decide ((((s_78.2.1.length-s_78.2.2.2):Nat):Int)>0))) (ah ?_)))))
      rcases aj hc_84 with⟨hc_88,hc_84⟩|⟨hc_88,hc_84⟩
      ·refine ay rfl hc_88 (av (ak (aL (ai (aa (gV n_83 1 s_78.2.2.1) (aa (vL Alert.enc l_1) (aa (qV n_82 1 s_78.2.1 s_78.2.2.2) ?_)))))))
       obtain ⟨_,hi_89,hc_84⟩:=bind_some hc_84
       refine vQ ni rfl rfl (zB hi_89) (uU hi_89) wz ?_
       obtain ⟨e_90,hy_91,hc_84⟩:=bind_some hc_84
       refine G7 0 3 il ft sz3 ag3 rfl rfl hy_91 (vI e_90) rfl wz ?_
       obtain ⟨y_92,hy_93,hc_84⟩:=bind_some hc_84
       refine dY mo rfl rfl hy_93 rfl wz (rQ jA rfl (Alert.enc y_92) rfl rfl wz (bI sz9 ag9 rfl (vS y_92.Id) rfl wz (eT (([y_92.Id]:List ByteArray).map eS) nM Dr rfl rfl rfl rfl rfl wz ?_)))
       obtain ⟨a_94,hz_95,hc_84⟩:=bind_some hc_84
       refine jB 0 il ft (i:=4) Ga Ga sz9 z9 rfl (by decide) by9 (by decide) (λ_=>rfl) rfl rfl rfl hz_95 wz (λn_96=>aa (gV n_96 1 a_94) (ah (ai (aa (.vs n_14 1 0 m_11) (aa (qV n_82 1 s_78.2.1 s_78.2.2.2) ?_)))))
       obtain ⟨_,hi_97,hc_84⟩:=bind_some hc_84
       refine vQ ni rfl rfl (zB hi_97) (uU hi_97) wz ?_
       obtain ⟨e_98,hy_99,hc_84⟩:=bind_some hc_84
       refine G7 0 3 il ft sz3 ag3 rfl rfl hy_99 (vI e_98) rfl wz ?_
       obtain ⟨_,hi_100,hc_84⟩:=bind_some hc_84
       refine vQ Qn rfl rfl (zB hi_100) (uU hi_100) wz ?_
       obtain ⟨r_101,hr_102,hc_84⟩:=bind_some hc_84
       refine K9 0 1 il ft DD Jf rfl rfl hr_102 wz (BI vJ rfl wz (aa (vI 0) (ah ?_)))
       obtain ⟨o_115,hj_116,hc_84⟩:=bind_some hc_84
       obtain ⟨hn_107,hj_116⟩:=aX hj_116
       refine ic (σ:=(List (Int×Bool))×(List Int)×Nat) (N:=Nm×Nm) (λp=>(λ(s_108:(List (Int×Bool))×(List Int)×Nat) (n_111:Nm) (n_112:Nm)=>([(0,(vL Alert.enc l_1)),(8,(.vs n_14 1 0 m_11)),(14,(.map n_71)),(15,(gV n_112 1 a_94)),(16,(qV n_111 1 s_108.2.1 s_108.2.2))]:SL_)) p.1 p.2.1 p.2.2) (λp=>(λ(s_108:(List (Int×Bool))×(List Int)×Nat) (n_111:Nm) (n_112:Nm)=>(([(n_3,some (.cells 1 [(vS id_2)])),(n_14,some (.cells 1 (dB 1 ns_23 s_21))),(n_71,some (bM (D.int .i64) D.bool s_108.1)),(n_111,some (bV 1 eI s_108.2.1)),(n_112,gB 1 eS a_94)]:Hp)++(eX 1 eI ns_23 s_21))) p.1 p.2.1 p.2.2) (λ(k_103:Nat)=>(λp=>(λ(s_108:(List (Int×Bool))×(List Int)×Nat) (n_111:Nm) (n_112:Nm)=>([(0,(vL Alert.enc l_1)),(8,(.vs n_14 1 0 m_11)),(14,(.map n_71)),(15,(gV n_112 1 a_94)),(16,(qV n_111 1 s_108.2.1 s_108.2.2)),(99,(gV (ns_23 (0+(e_98).toNat)) 1 r_101)),(100,(vI (r_101.length:Int))),(101,(vI (k_103:Int)))]:SL_)) p.1 p.2.1 p.2.2)) (λk x s=>jO r_101 s_21 e_98 k x s) o_115 (List.range ((r_101.length:Int)).toNat) ((s_78.1,s_78.2.1,s_78.2.2.2),n_82,n_96) hj_116 rfl (nL (C1:=([(n_3,some (.cells 1 [(vS id_2)])),(n_14,some (.cells 1 (dB 1 ns_23 s_21))),(n_71,some (bM (D.int .i64) D.bool s_78.1)),(n_82,some (bV 1 eI s_78.2.1)),(n_96,gB 1 eS a_94)]:Hp)) (T:=(eX 1 eI ns_23 s_21)) [0,1,2,3,4] (by decide) rfl rfl) ?_ ?_
       ·rintro ⟨k_103,l_104,s_108,n_111,n_112⟩ ⟨hL_114,hD_106⟩
        dsimp only at hL_114 hD_106
        cases l_104 with
        | nil =>
         obtain rfl:=ae hL_114
         refine ai (aa (vB (decide ((k_103:Int)<(r_101.length:Int)))) (ah ?_))
         refine ak (ax rfl (y7 hD_106) (aW ?_))
         exact aS (s_108,n_111,n_112) rfl rfl (nL (C1:=([(n_3,some (.cells 1 [(vS id_2)])),(n_14,some (.cells 1 (dB 1 ns_23 s_21))),(n_71,some (bM (D.int .i64) D.bool s_108.1)),(n_111,some (bV 1 eI s_108.2.1)),(n_112,gB 1 eS a_94)]:Hp)) (T:=(eX 1 eI ns_23 s_21)) [0,1,2,3,4] (by decide) rfl rfl)
        | cons x_105 l_104 =>
         obtain ⟨c_,hc_113,hL_114⟩:=bind_some hL_114
         refine ai (aa (vB (decide ((k_103:Int)<(r_101.length:Int)))) (ah ?_))
         refine ak (ay rfl (wY hD_106) (av ?_))
         unfold jO at hc_113
         refine ak (aL (ai ?_))
         obtain ⟨_,hi_117,hc_113⟩:=bind_some hc_113
         refine yl ni rfl rfl (iV hi_117) (fD hi_117) wz ?_
         obtain ⟨r_118,hr_119,hc_113⟩:=bind_some hc_113
         obtain ⟨e_120,hy_121,hc_113⟩:=bind_some hc_113
         refine PE (H0:=(([(n_3,some (.cells 1 [(vS id_2)])),(n_14,some (.cells 1 (dB 1 ns_23 s_21))),(n_71,some (bM (D.int .i64) D.bool s_108.1)),(n_111,some (bV 1 eI s_108.2.1)),(n_112,gB 1 eS a_94)]:Hp)++(eX 1 eI ns_23 s_21))) rfl (h_gld 0 il ft sz3 ag3 rfl hr_119 hy_121 (vI e_120) rfl wz (aa (vI e_120) (ah (ai (aa (.map n_71) (aa (vI e_120) (EY (eq:=eqI) (kD:=(D.int .i64)) (vD:=D.bool) (es:=s_108.1) (k:=e_120) (z:=false) 0 2 il ft (λ_ _=>rfl) mt72 (by kernel_rfl) (by kernel_rfl) rfl rfl rfl (vB ((kw eqI s_108.1 e_120).getD false)) rfl wz (aa (vB (!((kw eqI s_108.1 e_120).getD false))) (ah ?_)))))))))
         obtain ⟨v_122,h_123,hc_113⟩:=bind_some hc_113
         refine jW (β:=Nm) (λ(n_124:Nm)=>([(0,(vL Alert.enc l_1)),(8,(.vs n_14 1 0 m_11)),(14,(.map n_71)),(15,(gV n_112 1 a_94)),(16,(qV n_124 1 v_122.2.1 v_122.2.2)),(99,(gV (ns_23 (0+(e_98).toNat)) 1 r_101)),(100,(vI (r_101.length:Int))),(101,(vI (k_103:Int)))]:SL_)) (λ(n_124:Nm)=>(([(n_3,some (.cells 1 [(vS id_2)])),(n_14,some (.cells 1 (dB 1 ns_23 s_21))),(n_71,some (bM (D.int .i64) D.bool v_122.1)),(n_124,some (bV 1 eI v_122.2.1)),(n_112,gB 1 eS a_94)]:Hp)++(eX 1 eI ns_23 s_21))) (λ_=>True) ?_ ?_
         ·rcases aj h_123 with⟨hc_125,h_123⟩|⟨hc_125,h_123⟩
          ·refine ay rfl hc_125 (ai (aa (.map n_71) (aa (vI e_120) (FJ (eq:=eqI) (kD:=(D.int .i64)) (vD:=D.bool) (es:=s_108.1) (k:=e_120) (v:=true) 0 2 il ft (λ_ _=>rfl) mt72 (by kernel_rfl) rfl rfl rfl rfl wz (ah (au (aa (qV n_111 1 s_108.2.1 s_108.2.2) (aa (vI e_120) (eT (([e_120]:List Int).map eI) ni BG rfl rfl rfl rfl rfl wz ?_)))))))))
           obtain ⟨_,hk_129,h_123⟩:=bind_some h_123
           obtain ⟨a_126,hz_127,h_123⟩:=bind_some h_123
           refine h_appq 0 il ft (i:=3) EK EK sz3 z3 rfl (by decide) by3 (by decide) (λ_=>rfl) rfl (leN_le hk_129) rfl rfl (List.cons_ne_nil _ _) hz_127 wz (λn_128=>aa (vV n_128 1 a_126) (ah ?_))
           obtain rfl:=ae h_123
           exact aS n_128 trivial rfl (nL (C1:=([(n_3,some (.cells 1 [(vS id_2)])),(n_14,some (.cells 1 (dB 1 ns_23 s_21))),(n_71,some (bM (D.int .i64) D.bool (pR eqI s_108.1 e_120 true))),(n_128,some (bV 1 eI a_126)),(n_112,gB 1 eS a_94)]:Hp)) (T:=(eX 1 eI ns_23 s_21)) [0,1,2,3,4] (by decide) rfl rfl)
          ·refine ax rfl hc_125 (av ?_)
           obtain rfl:=ae h_123
           exact aS n_111 trivial rfl (nL (C1:=([(n_3,some (.cells 1 [(vS id_2)])),(n_14,some (.cells 1 (dB 1 ns_23 s_21))),(n_71,some (bM (D.int .i64) D.bool s_108.1)),(n_111,some (bV 1 eI s_108.2.1)),(n_112,gB 1 eS a_94)]:Hp)) (T:=(eX 1 eI ns_23 s_21)) [0,1,2,3,4] (by decide) rfl rfl)
         ·rintro n_124 _ sl_ H_ hp_ hq_
          refine aN _ hp_ hq_ (au (dZ (yO hD_106 hn_107) wz rfl (aa (vI ((k_103+1:Nat):Int)) (ah ?_))))
          obtain rfl:=ae hc_113
          exact aU (k_103+1,l_104,(v_122.1,v_122.2.1,v_122.2.2),n_124,n_112) ⟨hL_114,aR hD_106⟩ (ls_ _) rfl (nL (C1:=([(n_3,some (.cells 1 [(vS id_2)])),(n_14,some (.cells 1 (dB 1 ns_23 s_21))),(n_71,some (bM (D.int .i64) D.bool v_122.1)),(n_124,some (bV 1 eI v_122.2.1)),(n_112,gB 1 eS a_94)]:Hp)) (T:=(eX 1 eI ns_23 s_21)) [0,1,2,3,4] (by decide) rfl rfl)
       ·rintro ⟨s_108,n_111,n_112⟩ ho_ sl_ H_ hp_ hq_
        subst ho_
        refine aN _ hp_ hq_ (au (aa (qV n_111 1 s_108.2.1 s_108.2.2) ?_))
        obtain ⟨_,hl_130,hc_84⟩:=bind_some hc_84
        refine h_qpop (n:=n_111) (xs:=s_108.2.1) (k:=s_108.2.2) vJ sz3 rfl (ltN_lt hl_130) wz (aa (qV n_111 1 s_108.2.1 (s_108.2.2+1)) (ah ?_))
        obtain rfl:=ae hc_84
        exact aU (k_73,(s_108.1,s_108.2.1,a_94,(s_108.2.2+1)),n_111,n_112) hL_85 (ls_ _) rfl (nL (C1:=([(n_3,some (.cells 1 [(vS id_2)])),(n_14,some (.cells 1 (dB 1 ns_23 s_21))),(n_71,some (bM (D.int .i64) D.bool s_108.1)),(n_111,some (bV 1 eI s_108.2.1)),(n_112,gB 1 eS a_94)]:Hp)) (T:=(eX 1 eI ns_23 s_21)) [0,1,2,3,4] (by decide) rfl rfl)
      ·refine ax rfl hc_88 (aW ?_)
       obtain rfl:=ae hc_84
       obtain rfl:=ae hL_85
       exact aS ((s_78.1,s_78.2.1,s_78.2.2.1,s_78.2.2.2),n_82,n_83) rfl rfl (nL (C1:=([(n_3,some (.cells 1 [(vS id_2)])),(n_14,some (.cells 1 (dB 1 ns_23 s_21))),(n_71,some (bM (D.int .i64) D.bool s_78.1)),(n_82,some (bV 1 eI s_78.2.1)),(n_83,gB 1 eS s_78.2.2.1)]:Hp)) (T:=(eX 1 eI ns_23 s_21)) [0,1,2,3,4] (by decide) rfl rfl)
    ·rintro ⟨s_78,n_82,n_83⟩ ho_ sl_ H_ hp_ hq_
     subst ho_
     refine aN _ hp_ hq_ (ai (aa (gV n_83 1 s_78.2.2.1) ?_))
     obtain ⟨r_131,hr_132,hF⟩:=bind_some hF
     obtain ⟨_,hs_133,hF⟩:=bind_some hF
     replace hs_133:=kQ hs_133
     refine mh 0 [] 4 0 il ft (pV hr_132) rfl hb38 rfl rfl rfl (by kernel_rfl) rfl (.inl rfl) rfl (by kernel_rfl) (by kernel_rfl) (by kernel_rfl) (by kernel_rfl) rfl (by decide) (by kernel_rfl) jX (vZ hs_133) wz (([(n_3,some (.cells 1 [(vS id_2)])),(n_14,some (.cells 1 (dB 1 ns_23 s_21))),(n_71,some (bM (D.int .i64) D.bool s_78.1)),(n_82,some (bV 1 eI s_78.2.1)),(n_83,gB 1 eS r_131)]:Hp)++(eX 1 eI ns_23 s_21)) (by kernel_rfl) (dH (v':=(gV n_83 1 r_131)) 116 rfl (kJ hs_133.symm) (dH (v':=(gV n_83 1 r_131)) 15 rfl (kJ hs_133.symm) (ah (ai (aa (gV n_83 1 r_131) (aa (gV n_83 1 r_131) (aa (vI 0) (ah (gK 4 rfl (dE 4 4 rfl rfl (dE 15 4 rfl rfl (dE 116 4 rfl rfl (dE 118 4 rfl rfl ?_)))))))))))))
     obtain rfl:=ae hF
     exact aA (aK [(vL eS r_131),(vI 0)] ⟨rfl,⟨rfl,trivial⟩⟩)
theorem yx {l_1:(List Rect)} {r:Int} (hF:ma l_1=some r) :
  FnM Tryz.prog 59 [(vL Rect.enc l_1)] [] (vI r) []:=by
 refine FnM.of_wH ⟨Tryz.prog,21,[],[]⟩ rfl Tryz.func59 rfl rfl (lb_ rfl) (by kernel_rfl) ?_
 unfold ma at hF
 refine ai (aa (vI 0) (ah (ak (ai (aa (vL Rect.enc l_1) (bG xL rfl wz (aa (vB (decide ((l_1.length:Int)>2000))) (ah ?_))))))))
 rcases aj hF with⟨hc_2,hF⟩|⟨hc_2,hF⟩
 ·refine ay rfl hc_2 (ai (aa (vI 2) (ah ?_)))
  obtain rfl:=ae hF
  exact aA (aK [(vI 2)] ⟨rfl,trivial⟩)
 ·refine ax rfl hc_2 (av (ak (ai (aa (vL Rect.enc l_1) (bG xL rfl wz (aa (vI 0) (ah ?_)))))))
  obtain ⟨o_11,hj_12,hF⟩:=bind_some hF
  obtain ⟨hn_7,hj_12⟩:=aX hj_12
  refine bP (λ(s_8:Unit)=>[]) (λ(s_8:Unit)=>[]) (λ(k_3:Nat)=>(λ(s_8:Unit)=>[(9,(vL Rect.enc l_1)),(10,(vI (l_1.length:Int))),(11,(vI (k_3:Int)))])) (λk x s=>mP k x s) o_11 l_1 () hj_12 rfl (aH rfl) ?_ ?_
  ·rintro ⟨k_3,l_4,s_8⟩ ⟨hL_10,hD_6⟩
   dsimp only at hL_10 hD_6
   cases l_4 with
   | nil =>
    obtain rfl:=ae hL_10
    refine ai (aa (vB (decide ((k_3:Int)<(l_1.length:Int)))) (ah ?_))
    refine ak (ax rfl (drop_nil hD_6) (aW ?_))
    exact aS (s_8) rfl rfl (aH rfl)
   | cons x_5 l_4 =>
    obtain ⟨c_,hc_9,hL_10⟩:=bind_some hL_10
    refine ai (aa (vB (decide ((k_3:Int)<(l_1.length:Int)))) (ah ?_))
    refine ak (ay rfl (aZ hD_6) (av ?_))
    unfold mP at hc_9
    refine ak (aL (ai (dY Au rfl rfl (bz hD_6) rfl wz (bI q8 Du rfl (.d (.agg (Rect.enc x_5))) rfl wz (dC 0 (.inl rfl) z53 rfl wz (λn_13=>fB 0 il ft 0 q8 rfl rfl (Rect.v x_5) rfl wz (ah (ai (aC 0 0 il ft q8 Du rfl rfl (.d (.agg (Rect.enc x_5))) rfl wz ?_)))))))))
    obtain ⟨r_14,hr_15,hc_9⟩:=bind_some hc_9
    refine aF (rR hr_15) rfl hb84 rfl rfl rfl rfl wz (aa (vI r_14) (ah (ai (aa (vI r_14) (aa (vB (r_14 != 0)) (ah ?_))))))
    rcases aj hc_9 with⟨hc_16,hc_9⟩|⟨hc_16,hc_9⟩
    ·refine ay rfl hc_16 (ai (aa (vI r_14) (aa (vI r_14) (ah ?_))))
     obtain rfl:=ae hc_9
     obtain rfl:=ae hL_10
     obtain rfl:=ae hF
     exact aA (aK [(vI r_14)] ⟨rfl,trivial⟩)
    ·refine ax rfl hc_16 (av (au (dZ (bn hD_6 hn_7) wz rfl (aa (vI ((k_3+1:Nat):Int)) (ah ?_)))))
     obtain rfl:=ae hc_9
     exact aU (k_3+1,l_4,()) ⟨hL_10,aR hD_6⟩ (ls_ _) rfl (aH rfl)
  ·rintro s_8 ho_ sl_ H_ hp_ hq_
   subst ho_
   refine aN _ hp_ hq_ (ai (aa (vI 0) (ah ?_)))
   obtain rfl:=ae hF
   exact aA (aK [(vI 0)] ⟨rfl,trivial⟩)
theorem oC {n_1:Int} {r:Bool} (hF:iE n_1=some r) :
  FnM Tryz.prog 133 [.nil,(vI n_1)] [] (kV r (aD 0) 4 ([]:List Rect)) (kO r 4):=by
 refine FnM.of_wH ⟨Tryz.prog,27,[],[]⟩ rfl Tryz.func133 rfl rfl (lb_ rfl) (by kernel_rfl) ?_
 unfold iE at hF
 refine ai (aa .nil (ah (ak (ai (aa (vI n_1) (aa (vB (decide (n_1<0))) (ah ?_)))))))
 rcases aj hF with⟨hc_2,hF⟩|⟨hc_2,hF⟩
 ·refine ay rfl hc_2 (au ?_)
  cases hF
 ·refine ax rfl hc_2 (av (ak (ai (aa (vI n_1) (aa .nil (IB El rfl wz (aa .nil (Iz xL rfl wz (aa (vI (w64 (0-0))) (aa (vI (w64 (n_1-(w64 (0-0))))) (aa (vI (w64 (n_1-(w64 (0-0))))) (ah (ai (aa (vI (w64 (n_1-(w64 (0-0))))) (aa (vB (decide ((w64 (n_1-(w64 (0-0))))>0))) (ah ?_))))))))))))))))
  rcases aj hF with⟨hc_3,hF⟩|⟨hc_3,hF⟩
  ·refine ay rfl hc_3 (au (aa .nil (aa .nil (IB El rfl wz (aJ .nil wz (by kernel_rfl) (aa (vI (w64 (n_1-(w64 (0-0))))) ?_))))))
   obtain ⟨_,hz_5,hF⟩:=bind_some hF
   refine OO (enc:=Rect.enc) 0 (.inl rfl) El (by kernel_rfl) q8 z53 rfl (by decide) O5 rfl rfl hz_5 wz (λn_4=>aa .nil (Iz xL rfl wz (QC (m:=0) xL q8 rfl rfl rfl (Nat.zero_le _) wz (aa (.vs n_4 4 0 0) (ah (ai (aa (.vs n_4 4 0 0) (aa (.vs n_4 4 0 0) (ah ?_)))))))))
   obtain rfl:=ae hF
   exact aA (finK (.inr rfl) 0 rfl rfl)
  ·refine ax rfl hc_3 (av (ai (aa .nil (aa .nil (ah ?_)))))
   obtain rfl:=ae hF
   exact aA (finK0 (.inr rfl) rfl)
end Go.Proofs.YtkjlhdminmpmkabGreatDoor.Law

