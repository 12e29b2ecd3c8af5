/-
 The machine computes these plain functions (written by a program of ours).
-/
import Derived.Test.YthcdokkcamcnmaaGreatDoorFacts
import Derived.Test.YthcdokkcamcnmaaGreatDoorDefs
import Derived.Test.YthcdokkcamcnmaaGreatDoorPf5
open Go Go.Eng Go.Proofs
namespace Go.Proofs.YthcdokkcamcnmaaGreatDoor.Law
set_option maxRecDepth 100000
set_option linter.unusedVariables false
set_option maxHeartbeats 1000000
theorem EA {l_1:(List Entry)} {p_2:Player} {wv_3:Window} {r:(List Window)} (hF:rP l_1 p_2 wv_3=some r) :
  FnM Tryz.prog 21 [(vL Entry.enc l_1),(.d (.agg (Player.enc p_2))),(.d (.agg (Window.enc wv_3)))] [] (vL Window.enc r) []:=by
 refine FnM.of_wH ⟨Tryz.prog,29,[],[]⟩ rfl Tryz.func21 rfl rfl (lb_ rfl) (by kernel_rfl) ?_
 unfold rP at hF
 refine aj (bZ 0 (.inl rfl) (Player.v p_2) rfl rfl wz (λn_4=>bZ 0 (.inl rfl) [(vI wv_3.From),(vI wv_3.To)] rfl rfl wz (λn_5=>aa .nil (af (aj (aa .nil (af (au (aj (aa (vL Entry.enc l_1) (aA 0 0 il ft kQ mO rfl rfl (.d (.agg (Player.enc p_2))) rfl wz (aA 0 1 il ft eX iT rfl rfl (.d (.agg (Window.enc wv_3))) rfl wz ?_))))))))))))
 obtain ⟨r_6,hr_7,hF⟩:=bind_some hF
 refine aF (mD hr_7) rfl hb17 rfl rfl rfl rfl wz (bN BZ rfl wz (aa (vI 0) (af (kz (λn_14 => ?_)))))
 obtain ⟨o_19,hj_20,hF⟩:=bind_some hF
 obtain ⟨hn_12,hj_20⟩:=bf hj_20
 refine jl (σ:=(List Window)) (N:=Nm) (λp=>(λ(s_13:List Window) (n_16:Nm)=>([(7,(gV n_16 2 s_13))]:SL_)) p.1 p.2) (λp=>(λ(s_13:List Window) (n_16:Nm)=>([(n_4,some (.cells 4 (Player.v p_2))),(n_5,some (.cells 2 [(vI wv_3.From),(vI wv_3.To)])),(n_16,gB 2 Window.enc s_13)]:Hp)) p.1 p.2) (λ(k_8:Nat)=>(λp=>(λ(s_13:List Window) (n_16:Nm)=>([(7,(gV n_16 2 s_13)),(13,(vL Slot_.enc r_6)),(14,(vI (r_6.length:Int))),(15,(vI (k_8:Int)))]:SL_)) p.1 p.2)) (λk x s=>pM k x s) o_19 r_6 (([]:List Window),n_14) hj_20 rfl (aJ rfl) ?_ ?_
 ·rintro ⟨k_8,l_9,s_13,n_16⟩ ⟨hL_18,hD_11⟩
  dsimp only at hL_18 hD_11
  cases l_9 with
  | nil =>
   obtain rfl:=ae hL_18
   refine aj (aa (vB (decide ((k_8:Int)<(r_6.length:Int)))) (af ?_))
   refine au (aB rfl (drop_nil hD_11) (aU ?_))
   exact aV (s_13,n_16) rfl rfl (aJ rfl)
  | cons x_10 l_9 =>
   obtain ⟨c_,hc_17,hL_18⟩:=bind_some hL_18
   refine aj (aa (vB (decide ((k_8:Int)<(r_6.length:Int)))) (af ?_))
   refine au (aD rfl (bz hD_11) (ay ?_))
   unfold pM at hc_17
   refine au (aN (aj (eU zf rfl rfl (bH hD_11) rfl wz (bI yo IK rfl (.d (.agg (Slot_.enc x_10))) rfl wz (bR 0 (.inl rfl) z54 rfl wz (λn_21=>eH 0 il ft 3 yo rfl rfl (Slot_.v x_10) rfl wz (af (aj (aI uR rfl 2 rfl wz (aA 0 3 il ft sz9 ag9 rfl rfl (vS x_10.Entry) rfl wz (aa (vB (sEq x_10.Entry (⟨#[]⟩:ByteArray))) (af ?_))))))))))))
   obtain ⟨v_22,h_23,hc_17⟩:=bind_some hc_17
   refine jO (β:=Nm) (λ(n_24:Nm)=>([(7,(gV n_24 2 v_22)),(13,(vL Slot_.enc r_6)),(14,(vI (r_6.length:Int))),(15,(vI (k_8:Int)))]:SL_)) (λ(n_24:Nm)=>([(n_4,some (.cells 4 (Player.v p_2))),(n_5,some (.cells 2 [(vI wv_3.From),(vI wv_3.To)])),(n_24,gB 2 Window.enc v_22),(n_21,some (.cells 3 (Slot_.v x_10)))]:Hp)) (λ_=>True) ?_ ?_
   ·rcases ak h_23 with⟨hc_25,h_23⟩|⟨hc_25,h_23⟩
    ·refine aD rfl hc_25 (ax (aa (gV n_16 2 s_13) (aI wG rfl 0 rfl wz (aA 0 3 il ft eX iT rfl rfl (.d (.agg (Window.enc x_10.Time))) rfl wz (dU (([x_10.Time]:List Window).map Window.enc) AU Ng rfl rfl rfl rfl rfl wz ?_)))))
     obtain ⟨a_26,hz_27,h_23⟩:=bind_some h_23
     refine kI 0 il ft (i:=2) Es Es eX z33 rfl (by decide) ME (by decide) (λ_=>rfl) rfl rfl rfl hz_27 wz (λn_28=>aa (gV n_28 2 a_26) (af ?_))
     obtain rfl:=ae h_23
     exact aV n_28 trivial rfl (aJ rfl)
    ·refine aB rfl hc_25 (ay ?_)
     obtain rfl:=ae h_23
     exact aV n_16 trivial rfl (aJ rfl)
   ·rintro n_24 _ sl_ H_ hp_ hq_
    refine aO _ hp_ hq_ (ax (fJ (bE hD_11 hn_12) wz rfl (aa (vI ((k_8+1:Nat):Int)) (af ?_))))
    obtain rfl:=ae hc_17
    exact aS (k_8+1,l_9,v_22,n_24) ⟨hL_18,aR hD_11⟩ (ls_ _) rfl (aJ rfl)
 ·rintro ⟨s_13,n_16⟩ ho_ sl_ H_ hp_ hq_
  subst ho_
  refine aO _ hp_ hq_ (aj (aa (gV n_16 2 s_13) (aa (gV n_16 2 s_13) (af (iw 2 rfl (dJ 6 2 rfl rfl (dJ 7 2 rfl rfl (dJ 28 2 rfl rfl ?_))))))))
  obtain rfl:=ae hF
  exact aC (aL [(vL Window.enc s_13)] ⟨rfl,trivial⟩)
theorem mG {s1_1:(List Window)} {s2_2:(List Window)} {r:Bool} (hF:dx s1_1 s2_2=some r) :
  FnM Tryz.prog 20 [(vL Window.enc s1_1),(vL Window.enc s2_2)] [] (vB r) []:=by
 refine FnM.of_wH ⟨Tryz.prog,26,[],[]⟩ rfl Tryz.func20 rfl rfl (lb_ rfl) (by kernel_rfl) ?_
 unfold dx at hF
 refine aj (aa (vB false) (af (au (aj (aa (vL Window.enc s1_1) (bN El rfl wz (aa (vL Window.enc s2_2) (bN El rfl wz (aa (vB ((s1_1.length:Int) != (s2_2.length:Int))) (af ?_))))))))))
 rcases ak hF with⟨hc_3,hF⟩|⟨hc_3,hF⟩
 ·refine aD rfl hc_3 (aj (aa (vB false) (af ?_)))
  obtain rfl:=ae hF
  exact aC (aL [(vB false)] ⟨rfl,trivial⟩)
 ·refine aB rfl hc_3 (ay (au (aj (aa (vL Window.enc s1_1) (bN El rfl wz (aa (vI 0) (af ?_)))))))
  obtain ⟨o_12,hj_13,hF⟩:=bind_some hF
  obtain ⟨hn_8,hj_13⟩:=bf hj_13
  refine cK (λ(s_9:Unit)=>[]) (λ(s_9:Unit)=>[]) (λ(k_4:Nat)=>(λ(s_9:Unit)=>[(0,(vL Window.enc s1_1)),(1,(vL Window.enc s2_2)),(12,(vI (s1_1.length:Int))),(13,(vI (k_4:Int)))])) (λk x s=>bS s2_2 k x s) o_12 s1_1 () hj_13 rfl (aJ rfl) ?_ ?_
  ·rintro ⟨k_4,l_5,s_9⟩ ⟨hL_11,hD_7⟩
   dsimp only at hL_11 hD_7
   cases l_5 with
   | nil =>
    obtain rfl:=ae hL_11
    refine aj (aa (vB (decide ((k_4:Int)<(s1_1.length:Int)))) (af ?_))
    refine au (aB rfl (drop_nil hD_7) (aU ?_))
    exact aV (s_9) rfl rfl (aJ rfl)
   | cons x_6 l_5 =>
    obtain ⟨c_,hc_10,hL_11⟩:=bind_some hL_11
    refine aj (aa (vB (decide ((k_4:Int)<(s1_1.length:Int)))) (af ?_))
    refine au (aD rfl (bz hD_7) (ay ?_))
    unfold bS at hc_10
    refine au (aN (aj (aa (vI (k_4:Int)) (aa (vI (k_4:Int)) (af (au (dA (aa (vL Window.enc s1_1) (aa (vI (k_4:Int)) (eU AU rfl rfl (bH hD_7) rfl wz (bI eX iT rfl (.d (.agg (Window.enc x_6))) rfl wz (aa (vL Window.enc s2_2) (aa (vI (k_4:Int)) ?_)))))))))))))
    obtain ⟨y_14,hy_15,hc_10⟩:=bind_some hc_10
    refine eU AU rfl rfl hy_15 rfl wz (bI eX iT rfl (.d (.agg (Window.enc y_14))) rfl wz (aK (vB (!((x_6.From==y_14.From)&&((x_6.To==y_14.To)&&true)))) wz (by kernel_rfl) (af ?_)))
    rcases ak hc_10 with⟨hc_16,hc_10⟩|⟨hc_16,hc_10⟩
    ·refine aD rfl hc_16 (aj (aa (vB false) (af ?_)))
     obtain rfl:=ae hc_10
     obtain rfl:=ae hL_11
     obtain rfl:=ae hF
     exact aC (aL [(vB false)] ⟨rfl,trivial⟩)
    ·refine aB rfl hc_16 (ay (ax (fJ (bE hD_7 hn_8) wz rfl (aa (vI ((k_4+1:Nat):Int)) (af ?_)))))
     obtain rfl:=ae hc_10
     exact aS (k_4+1,l_5,()) ⟨hL_11,aR hD_7⟩ (ls_ _) rfl (aJ rfl)
  ·rintro s_9 ho_ sl_ H_ hp_ hq_
   subst ho_
   refine aO _ hp_ hq_ (aj (aa (vB true) (af ?_)))
   obtain rfl:=ae hF
   exact aC (aL [(vB true)] ⟨rfl,trivial⟩)
theorem BL {a_1:Pair} {b_2:Pair} {r:Int} (hF:oN a_1 b_2=some r) :
  FnM Tryz.prog 52 [(.d (.agg (Pair.enc a_1))),(.d (.agg (Pair.enc b_2)))] [] (vI r) []:=by
 refine FnM.of_wH ⟨Tryz.prog,10,[],[]⟩ rfl Tryz.func52 rfl rfl (lb_ rfl) (by kernel_rfl) ?_
 unfold oN at hF
 refine aj (bZ 0 (.inl rfl) [(vS a_1.Name),(vS a_1.Value)] rfl rfl wz (λn_3=>bZ 0 (.inl rfl) [(vS b_2.Name),(vS b_2.Value)] rfl rfl wz (λn_4=>aa (vI 0) (af (aj (aI MO rfl 0 rfl wz (aA 0 0 il ft sz9 ag9 rfl rfl (vS a_1.Name) rfl wz (aI MO rfl 0 rfl wz (aA 0 1 il ft sz9 ag9 rfl rfl (vS b_2.Name) rfl wz ?_)))))))))
 obtain ⟨r_5,hr_6,hF⟩:=bind_some hF
 refine aF (nK hr_6) rfl hb53 rfl rfl rfl rfl wz (aa (vI r_5) (af ?_))
 obtain rfl:=ae hF
 exact aC (aL [(vI r_5)] ⟨rfl,trivial⟩)
theorem kS {data_1:(List Pair)} {a_2:Int} {b_3:Int} {r:(List Pair)} (hF:fE data_1 a_2 b_3=some r) :
  FnM Tryz.prog 111 [(dV (av 0) 2 data_1),(vI a_2),(vI b_3),(.fn 52 [])] (([]:List Box)++gI 2 Pair.enc data_1) (.tup []) (([]:List Box).map some++gT data_1 (gB 2 Pair.enc r)):=by
 refine FnM.of_wHv ⟨Tryz.prog,53,[],[]⟩ rfl Tryz.func111 rfl rfl (lb_ rfl) (by kernel_rfl) ?_
 unfold fE at hF
 refine aj (aa (vI a_2) (aa (vI (w64 (a_2+1))) (aa (vI (w64 (a_2+1))) (af ?_))))
 obtain ⟨o_13,hj_14,hF⟩:=bind_some hF
 obtain ⟨nq_51,hj_14⟩:=dZ hj_14
 refine jh (λ(s_10:(List Pair)×Int)=>[]) (λ(s_10:(List Pair)×Int)=>[((av 0),gB 2 Pair.enc s_10.1)]) (λ(k_5:Nat)=>(λ(s_10:(List Pair)×Int)=>[(0,(dV (av 0) 2 s_10.1)),(1,(vI a_2)),(2,(vI b_3)),(3,(.fn 52 [])),(8,(vI s_10.2))])) (λs=>eT b_3 a_2 s) o_13 nq_51 (data_1,(w64 (a_2+1))) hj_14 rfl (aJ rfl) ?_ ?_
 ·rintro ⟨k_5,s_10⟩ hL_12
  dsimp only at hL_12
  cases k_5 with
  | zero=>cases hL_12
  | succ k_5 =>
   obtain ⟨c_,hc_11,hL_12⟩:=bind_some hL_12
   unfold eT at hc_11
   refine au (aj (aa (vI s_10.2) (aa (vI b_3) (aa (vB (decide (s_10.2<b_3))) (af ?_)))))
   rcases ak hc_11 with⟨hc_15,hc_11⟩|⟨hc_15,hc_11⟩
   ·refine aD rfl hc_15 (ay (au (aN (aj (aa (vI s_10.2) (aa (vI s_10.2) (af ?_)))))))
    obtain ⟨o_24,hj_25,hc_11⟩:=bind_some hc_11
    obtain ⟨nq_50,hj_25⟩:=dZ hj_25
    refine jh (λ(s_21:(List Pair)×Int)=>[(0,(dV (av 0) 2 s_21.1)),(1,(vI a_2)),(2,(vI b_3)),(3,(.fn 52 [])),(8,(vI s_10.2))]) (λ(s_21:(List Pair)×Int)=>[((av 0),gB 2 Pair.enc s_21.1)]) (λ(k_16:Nat)=>(λ(s_21:(List Pair)×Int)=>[(0,(dV (av 0) 2 s_21.1)),(1,(vI a_2)),(2,(vI b_3)),(3,(.fn 52 [])),(8,(vI s_10.2)),(9,(vI s_21.2))])) (λs=>eQ a_2 s) o_24 nq_50 (s_10.1,s_10.2) hj_25 rfl (aJ rfl) ?_ ?_
    ·rintro ⟨k_16,s_21⟩ hL_23
     dsimp only at hL_23
     cases k_16 with
     | zero=>cases hL_23
     | succ k_16 =>
      obtain ⟨c_,hc_22,hL_23⟩:=bind_some hL_23
      unfold eQ at hc_22
      refine au (au ?_)
      obtain ⟨v_26,h_27,hc_22⟩:=bind_some hc_22
      refine aQ [(0,(dV (av 0) 2 s_21.1)),(1,(vI a_2)),(2,(vI b_3)),(3,(.fn 52 [])),(8,(vI s_10.2)),(9,(vI s_21.2)),(34,(vB v_26))] [((av 0),gB 2 Pair.enc s_21.1)] ?_ ?_
      ·refine dA (aa (vI s_21.2) (aa (vI a_2) (aa (vB (decide (s_21.2>a_2))) ?_)))
       rcases ak h_27 with⟨hc_28,h_27⟩|⟨hc_28,h_27⟩
       ·refine aH rfl hc_28 wz (aK (.fn 52 []) wa rfl (aK (dV (av 0) 2 s_21.1) wa rfl (aK (vI s_21.2) wa rfl ?_)))
        obtain ⟨_,hi_29,h_27⟩:=bind_some h_27
        refine mq Ey rfl rfl (jG hi_29) (gW hi_29) wa ?_
        obtain ⟨e_30,hy_31,h_27⟩:=bind_some h_27
        refine kC 8 0 (.inr (by kernel_rfl)) (λ_ _ ag=>trivial) Ej Me rfl rfl hy_31 (.d (.agg (Pair.enc e_30))) rfl wa (aK (dV (av 0) 2 s_21.1) wa rfl (aK (vI s_21.2) wa rfl (aK (vI (w64 (s_21.2-1))) wa rfl ?_)))
        obtain ⟨_,hi_32,h_27⟩:=bind_some h_27
        refine mq Ey rfl rfl (jG hi_32) (gW hi_32) wa ?_
        obtain ⟨e_33,hy_34,h_27⟩:=bind_some h_27
        refine kC 13 0 (.inr (by kernel_rfl)) (λ_ _ ag=>⟨.inl ⟨rfl,rfl⟩,trivial⟩) Ej Me rfl rfl hy_34 (.d (.agg (Pair.enc e_33))) rfl wa ?_
        obtain ⟨r_35,hr_36,h_27⟩:=bind_some h_27
        refine aF (BL hr_36) rfl hb52 rfl rfl rfl rfl wa (aK (vB (decide (r_35<0))) wa rfl (aa (vB (decide (r_35<0))) (af ?_)))
        obtain rfl:=ae h_27
        exact cu
       ·refine aH rfl hc_28 wz (ah (ah (ah (ah (ah (ah (ah (ah (ah (ah (ah (ah (aa (vB false) (af ?_))))))))))))))
        obtain rfl:=ae h_27
        exact cu
      ·rintro ⟨⟩ _ sl_ H_ hp_ hq_
       refine aO _ hp_ hq_ ?_
       rcases ak hc_22 with⟨hc_37,hc_22⟩|⟨hc_37,hc_22⟩
       ·refine aD rfl hc_37 (ay (au (aN (dA (aa (dV (av 0) 2 s_21.1) (aa (vI s_21.2) (aa (dV (av 0) 2 s_21.1) (aa (vI s_21.2) (aa (vI (w64 (s_21.2-1))) (aa (dV (av 0) 2 s_21.1) (aa (vI s_21.2) (aa (vI (w64 (s_21.2-1))) ?_))))))))))))
        obtain ⟨_,hi_38,hc_22⟩:=bind_some hc_22
        refine mq Ey rfl rfl (jG hi_38) (gW hi_38) wz ?_
        obtain ⟨e_39,hy_40,hc_22⟩:=bind_some hc_22
        refine kC 9 0 (.inr (by kernel_rfl)) (λ_ _ ag=>trivial) Ej Me rfl rfl hy_40 (.d (.agg (Pair.enc e_39))) rfl wz (aa (dV (av 0) 2 s_21.1) (aa (vI s_21.2) ?_))
        obtain ⟨_,hi_41,hc_22⟩:=bind_some hc_22
        refine mq Ey rfl rfl (jG hi_41) (gW hi_41) wz ?_
        obtain ⟨e_42,hy_43,hc_22⟩:=bind_some hc_22
        refine kC 13 0 (.inr (by kernel_rfl)) (λ_ _ ag=>⟨.inl ⟨rfl,rfl⟩,trivial⟩) Ej Me rfl rfl hy_43 (.d (.agg (Pair.enc e_42))) rfl wz ?_
        obtain ⟨_,hi_44,hc_22⟩:=bind_some hc_22
        refine mq Ey rfl rfl (jG hi_44) (gW hi_44) wz ?_
        obtain ⟨e_45,hy_46,hc_22⟩:=bind_some hc_22
        refine lG 15 (.inr (by kernel_rfl)) (λ_ _ ag=>⟨.inr (.inr (by kernel_rfl)),⟨.inr (.inr (by kernel_rfl)),trivial⟩⟩) 0 Ej rfl rfl hy_46 e_39 rfl wz (bL (v':=(dV (av 0) 2 (s_21.1.set (0+(s_21.2).toNat) e_39))) 0 rfl (gX (by simp)) (bL (v':=(dV (av 0) 2 (s_21.1.set (0+(s_21.2).toNat) e_39))) 37 rfl (gX (by simp)) (bL (v':=(dV (av 0) 2 (s_21.1.set (0+(s_21.2).toNat) e_39))) 39 rfl (gX (by simp)) (bL (v':=(dV (av 0) 2 (s_21.1.set (0+(s_21.2).toNat) e_39))) 42 rfl (gX (by simp)) (bL (v':=(dV (av 0) 2 (s_21.1.set (0+(s_21.2).toNat) e_39))) 47 rfl (gX (by simp)) ?_)))))
        obtain ⟨_,hi_47,hc_22⟩:=bind_some hc_22
        refine mq Ey rfl rfl (jG hi_47) (gW hi_47) wz ?_
        obtain ⟨e_48,hy_49,hc_22⟩:=bind_some hc_22
        refine lG 17 (.inr (by kernel_rfl)) (λ_ _ ag=>⟨.inr (.inr (by kernel_rfl)),⟨.inr (.inr (by kernel_rfl)),⟨.inr (.inr (by kernel_rfl)),trivial⟩⟩⟩) 0 Ej rfl rfl hy_49 e_42 rfl wz (bL (v':=(dV (av 0) 2 ((s_21.1.set (0+(s_21.2).toNat) e_39).set (0+((w64 (s_21.2-1))).toNat) e_42))) 0 rfl (gX (by simp)) (bL (v':=(dV (av 0) 2 ((s_21.1.set (0+(s_21.2).toNat) e_39).set (0+((w64 (s_21.2-1))).toNat) e_42))) 37 rfl (gX (by simp)) (bL (v':=(dV (av 0) 2 ((s_21.1.set (0+(s_21.2).toNat) e_39).set (0+((w64 (s_21.2-1))).toNat) e_42))) 39 rfl (gX (by simp)) (bL (v':=(dV (av 0) 2 ((s_21.1.set (0+(s_21.2).toNat) e_39).set (0+((w64 (s_21.2-1))).toNat) e_42))) 42 rfl (gX (by simp)) (bL (v':=(dV (av 0) 2 ((s_21.1.set (0+(s_21.2).toNat) e_39).set (0+((w64 (s_21.2-1))).toNat) e_42))) 47 rfl (gX (by simp)) (af (ax (aa (vI s_21.2) (aa (vI (w64 (s_21.2-1))) (aa (vI (w64 (s_21.2-1))) (af ?_)))))))))))
        obtain rfl:=ae hc_22
        exact aS (k_16,(((s_21.1.set (0+(s_21.2).toNat) e_39).set (0+((w64 (s_21.2-1))).toNat) e_42),(w64 (s_21.2-1)))) hL_23 (ls_ _) rfl (aJ rfl)
       ·refine aB rfl hc_37 (aU ?_)
        obtain rfl:=ae hc_22
        obtain rfl:=ae hL_23
        exact aV ((s_21.1,s_21.2)) rfl rfl (aJ rfl)
    ·rintro s_21 ho_ sl_ H_ hp_ hq_
     subst ho_
     refine aO _ hp_ hq_ (ax (aa (vI s_10.2) (aa (vI (w64 (s_10.2+1))) (aa (vI (w64 (s_10.2+1))) (af ?_)))))
     obtain rfl:=ae hc_11
     exact aS (k_5,(s_21.1,(w64 (s_10.2+1)))) hL_12 (ls_ _) rfl (aJ rfl)
   ·refine aB rfl hc_15 (aU ?_)
    obtain rfl:=ae hc_11
    obtain rfl:=ae hL_12
    exact aV ((s_10.1,s_10.2)) rfl rfl (aJ rfl)
 ·rintro s_10 ho_ sl_ H_ hp_ hq_
  subst ho_
  show wS _ _ _ _ _ _ _ _
  obtain rfl:=ae hF
  exact Ck (H0:=([((av 0),gB 2 Pair.enc s_10.1)]:Hp)) (sl':=envS []) hq_ (BJ (bs:=([]:List Box)) (os:=([]:List Box)) (xs:=data_1) (o:=gB 2 Pair.enc s_10.1) (.inl rfl) [] trivial rfl rfl rfl rfl rfl (by kernel_rfl) oz rfl)
theorem mW {data_1:(List Pair)} {a_2:Int} {b_3:Int} {limit_4:Int} {r:(List Pair)} (hF:gY data_1 a_2 b_3 limit_4=some r) :
  FnM Tryz.prog 86 [(dV (av 0) 2 data_1),(vI a_2),(vI b_3),(vI limit_4),(.fn 52 [])] (([]:List Box)++gI 2 Pair.enc data_1) (.tup []) (([]:List Box).map some++gT data_1 (gB 2 Pair.enc r)):=by
 refine FnM.of_wHv ⟨Tryz.prog,148,[],[]⟩ rfl Tryz.func86 rfl rfl (lb_ rfl) (by kernel_rfl) ?_
 unfold gY at hF
 refine aj (aa (vB true) (af (aj (aa (vB true) (af ?_)))))
 obtain ⟨o_14,hj_15,hF⟩:=bind_some hF
 obtain ⟨nq_21,hj_15⟩:=dZ hj_15
 refine jh (λ(s_11:Unit)=>[]) (λ(s_11:Unit)=>[((av 0),gB 2 Pair.enc data_1)]) (λ(k_6:Nat)=>(λ(s_11:Unit)=>[(0,(dV (av 0) 2 data_1)),(1,(vI a_2)),(2,(vI b_3)),(3,(vI limit_4)),(4,(.fn 52 [])),(10,(vB true)),(11,(vB true))])) (λs=>gD b_3 a_2 data_1 limit_4 s) o_14 nq_21 () hj_15 rfl (aJ rfl) ?_ ?_
 ·rintro ⟨k_6,s_11⟩ hL_13
  dsimp only at hL_13
  cases k_6 with
  | zero=>cases hL_13
  | succ k_6 =>
   obtain ⟨c_,hc_12,hL_13⟩:=bind_some hL_13
   unfold gD at hc_12
   refine aN (aj (aa (vI b_3) (aa (vI a_2) (aa (vI (w64 (b_3-a_2))) (aa (vI (w64 (b_3-a_2))) (af (au (aj (aa (vI (w64 (b_3-a_2))) (aa (vB (decide ((w64 (b_3-a_2))<=12))) (af ?_)))))))))))
   rcases ak hc_12 with⟨hc_16,hc_12⟩|⟨hc_16,hc_12⟩
   ·refine aD rfl hc_16 (aj (aa (dV (av 0) 2 data_1) (aa (vI a_2) (aa (vI b_3) (aa (.fn 52 []) ?_)))))
    obtain ⟨r_17,hr_18,hc_12⟩:=bind_some hc_12
    obtain ⟨_,hs_19,hc_12⟩:=bind_some hc_12
    replace hs_19:=oG hs_19
    refine nG 0 [] 0 0 il ft (kS hr_18) rfl hb111 rfl rfl rfl (by kernel_rfl) rfl (.inr (.inl rfl)) rfl (by kernel_rfl) (by kernel_rfl) (by kernel_rfl) (by kernel_rfl) rfl (by decide) (by kernel_rfl) oz (xP hs_19) wz ([((av 0),gB 2 Pair.enc r_17)]:Hp) (by kernel_rfl) (bL (v':=(dV (av 0) 2 r_17)) 0 rfl (gX hs_19.symm) (bL (v':=(dV (av 0) 2 r_17)) 26 rfl (gX hs_19.symm) (af ?_)))
    obtain rfl:=ae hc_12
    obtain rfl:=ae hL_13
    obtain rfl:=ae hF
    exact aC (BJ (bs:=([]:List Box)) (os:=([]:List Box)) (xs:=data_1) (o:=gB 2 Pair.enc r_17) (.inr rfl) [] trivial rfl rfl rfl rfl rfl (by kernel_rfl) oz rfl)
   ·refine aB rfl hc_16 (ay (au (aj (aa (vI limit_4) (aa (vB (limit_4==0)) (af ?_))))))
    rcases ak hc_12 with⟨hc_20,hc_12⟩|⟨hc_20,hc_12⟩
    ·refine aD rfl hc_20 (aj (aa (dV (av 0) 2 data_1) (aa (vI a_2) (aa (vI b_3) (aa (.fn 52 []) ?_)))))
     cases hc_12
    ·refine aB rfl hc_20 (ay (au (aj (aa (vB true) (aa (vB false) (af (aB rfl rfl (ay (aj (aa (dV (av 0) 2 data_1) (aa (vI a_2) (aa (vI b_3) (aa (.fn 52 []) ?_)))))))))))))
     cases hc_12
 ·rintro s_11 ho_ sl_ H_ hp_ hq_
  subst ho_
  show wS _ _ _ _ _ _ _ _
  obtain rfl:=ae hF
  exact Ck (H0:=([((av 0),gB 2 Pair.enc data_1)]:Hp)) (sl':=envS []) hq_ (BJ (bs:=([]:List Box)) (os:=([]:List Box)) (xs:=data_1) (o:=gB 2 Pair.enc data_1) (.inl rfl) [] trivial rfl rfl rfl rfl rfl (by kernel_rfl) oz rfl)
theorem lN {x_1:(List Pair)} {r:(List Pair)} (hF:cz x_1=some r) :
  FnM Tryz.prog 51 [(dV (av 0) 2 x_1),(.fn 52 [])] (([]:List Box)++gI 2 Pair.enc x_1) (.tup []) (([]:List Box).map some++gT x_1 (gB 2 Pair.enc r)):=by
 refine FnM.of_wHv ⟨Tryz.prog,14,[],[]⟩ rfl Tryz.func51 rfl rfl (lb_ rfl) (by kernel_rfl) ?_
 unfold cz at hF
 refine aj (aa (dV (av 0) 2 x_1) (A9 Mw rfl wz (aa (vI (x_1.length:Int)) (af (ax (aa (dV (av 0) 2 x_1) (aa (vI (x_1.length:Int)) (aa (vI (x_1.length:Int)) (wT un3 Fh rfl wz ?_)))))))))
 obtain ⟨r_3,hr_4,hF⟩:=bind_some hF
 refine aF (ut hr_4) rfl hb87 rfl rfl rfl rfl wz (aa (.fn 52 []) ?_)
 obtain ⟨r_5,hr_6,hF⟩:=bind_some hF
 obtain ⟨_,hs_7,hF⟩:=bind_some hF
 replace hs_7:=oG hs_7
 refine nG 0 [] 0 0 il ft (mW hr_6) rfl hb86 rfl rfl rfl (by kernel_rfl) rfl (.inr (.inl rfl)) rfl (by kernel_rfl) (by kernel_rfl) (by kernel_rfl) (by kernel_rfl) rfl (by decide) (by kernel_rfl) oz (xP hs_7) wz ([((av 0),gB 2 Pair.enc r_5)]:Hp) (by kernel_rfl) (bL (v':=(dV (av 0) 2 r_5)) 0 rfl (gX hs_7.symm) (bL (v':=(dV (av 0) 2 r_5)) 5 rfl (gX hs_7.symm) (bL (v':=(dV (av 0) 2 r_5)) 7 rfl (gX hs_7.symm) (af ?_))))
 show wS _ _ _ _ _ _ _ _
 obtain rfl:=ae hF
 exact BJ (bs:=([]:List Box)) (os:=([]:List Box)) (xs:=x_1) (o:=gB 2 Pair.enc r_5) (.inl rfl) [] trivial rfl rfl rfl rfl rfl (by kernel_rfl) oz rfl
theorem Eu {l_1:(List Entry)} {p_2:Player} {wv_3:Window} {r:(List Pair)} (hF:ry l_1 p_2 wv_3=some r) :
  FnM Tryz.prog 23 [(vL Entry.enc l_1),(.d (.agg (Player.enc p_2))),(.d (.agg (Window.enc wv_3)))] [] (vL Pair.enc r) []:=by
 refine FnM.of_wH ⟨Tryz.prog,67,[],[]⟩ rfl Tryz.func23 rfl rfl (lb_ rfl) (by kernel_rfl) ?_
 unfold ry at hF
 refine aj (bZ 0 (.inl rfl) (Player.v p_2) rfl rfl wz (λn_4=>bZ 0 (.inl rfl) [(vI wv_3.From),(vI wv_3.To)] rfl rfl wz (λn_5=>aa .nil (af (aj (Ch 0 (.inl rfl) wz (λn_6=>zo (b':=some (bM D.str (D.int .i64) ([]:List (ByteArray×Int)))) 2 rfl rfl (aa (.map n_6) (af (au (aj (aa (vL Entry.enc l_1) (aA 0 0 il ft kQ mO rfl rfl (.d (.agg (Player.enc p_2))) rfl wz (aA 0 1 il ft eX iT rfl rfl (.d (.agg (Window.enc wv_3))) rfl wz ?_))))))))))))))
 obtain ⟨r_7,hr_8,hF⟩:=bind_some hF
 refine aF (mD hr_8) rfl hb17 rfl rfl rfl rfl wz (bN BZ rfl wz (aa (vI 0) (af ?_)))
 obtain ⟨o_17,hj_18,hF⟩:=bind_some hF
 obtain ⟨hn_13,hj_18⟩:=bf hj_18
 refine cK (λ(s_14:(List (ByteArray×Int)))=>[(7,(.map n_6))]) (λ(s_14:(List (ByteArray×Int)))=>[(n_4,some (.cells 4 (Player.v p_2))),(n_5,some (.cells 2 [(vI wv_3.From),(vI wv_3.To)])),(n_6,some (bM D.str (D.int .i64) s_14))]) (λ(k_9:Nat)=>(λ(s_14:(List (ByteArray×Int)))=>[(0,(vL Entry.enc l_1)),(7,(.map n_6)),(19,(vL Slot_.enc r_7)),(20,(vI (r_7.length:Int))),(21,(vI (k_9:Int)))])) (λk x s=>lC l_1 k x s) o_17 r_7 ([]:List (ByteArray×Int)) hj_18 rfl (aJ rfl) ?_ ?_
 ·rintro ⟨k_9,l_10,s_14⟩ ⟨hL_16,hD_12⟩
  dsimp only at hL_16 hD_12
  cases l_10 with
  | nil =>
   obtain rfl:=ae hL_16
   refine aj (aa (vB (decide ((k_9:Int)<(r_7.length:Int)))) (af ?_))
   refine au (aB rfl (drop_nil hD_12) (aU ?_))
   exact aV (s_14) rfl rfl (aJ rfl)
  | cons x_11 l_10 =>
   obtain ⟨c_,hc_15,hL_16⟩:=bind_some hL_16
   refine aj (aa (vB (decide ((k_9:Int)<(r_7.length:Int)))) (af ?_))
   refine au (aD rfl (bz hD_12) (ay ?_))
   unfold lC at hc_15
   refine au (aN (aj (eU zf rfl rfl (bH hD_12) rfl wz (bI yo IK rfl (.d (.agg (Slot_.enc x_11))) rfl wz (bR 0 (.inl rfl) z54 rfl wz (λn_19=>eH 0 il ft 3 yo rfl rfl (Slot_.v x_11) rfl wz (af (aj (aa (vL Entry.enc l_1) (bN yB rfl wz (aa (vI 0) (af ?_))))))))))))
   obtain ⟨o_28,hj_29,hc_15⟩:=bind_some hc_15
   obtain ⟨hn_24,hj_29⟩:=bf hj_29
   refine cK (λ(s_25:(List (ByteArray×Int)))=>[(0,(vL Entry.enc l_1)),(7,(.map n_6)),(19,(vL Slot_.enc r_7)),(20,(vI (r_7.length:Int))),(21,(vI (k_9:Int)))]) (λ(s_25:(List (ByteArray×Int)))=>[(n_4,some (.cells 4 (Player.v p_2))),(n_5,some (.cells 2 [(vI wv_3.From),(vI wv_3.To)])),(n_6,some (bM D.str (D.int .i64) s_25)),(n_19,some (.cells 3 (Slot_.v x_11)))]) (λ(k_20:Nat)=>(λ(s_25:(List (ByteArray×Int)))=>[(0,(vL Entry.enc l_1)),(7,(.map n_6)),(9,(.ref n_19 0 0)),(19,(vL Slot_.enc r_7)),(20,(vI (r_7.length:Int))),(21,(vI (k_9:Int))),(25,(vL Entry.enc l_1)),(26,(vI (l_1.length:Int))),(27,(vI (k_20:Int)))])) (λk x s=>gJ x_11 k x s) o_28 l_1 s_14 hj_29 rfl (aJ rfl) ?_ ?_
   ·rintro ⟨k_20,l_21,s_25⟩ ⟨hL_27,hD_23⟩
    dsimp only at hL_27 hD_23
    cases l_21 with
    | nil =>
     obtain rfl:=ae hL_27
     refine aj (aa (vB (decide ((k_20:Int)<(l_1.length:Int)))) (af ?_))
     refine au (aB rfl (drop_nil hD_23) (aU ?_))
     exact aV (s_25) rfl rfl (aJ rfl)
    | cons x_22 l_21 =>
     obtain ⟨c_,hc_26,hL_27⟩:=bind_some hL_27
     refine aj (aa (vB (decide ((k_20:Int)<(l_1.length:Int)))) (af ?_))
     refine au (aD rfl (bz hD_23) (ay ?_))
     unfold gJ at hc_26
     refine au (aN (aj (eU qh rfl rfl (bH hD_23) rfl wz (bI iZ kK rfl (.d (.agg (Entry.enc x_22))) rfl wz (bR 0 (.inl rfl) z68 rfl wz (λn_30=>eH 0 il ft 4 iZ rfl rfl (Entry.v x_22) rfl wz (af (aj (aI kg rfl 0 rfl wz (aA 0 4 il ft sz9 ag9 rfl rfl (vS x_22.Key) rfl wz (aI uR rfl 2 rfl wz (aA 0 3 il ft sz9 ag9 rfl rfl (vS x_11.Entry) rfl wz (aa (vB (sEq x_22.Key x_11.Entry)) (af ?_))))))))))))))
     obtain ⟨v_31,h_32,hc_26⟩:=bind_some hc_26
     refine aQ [(0,(vL Entry.enc l_1)),(7,(.map n_6)),(9,(.ref n_19 0 0)),(19,(vL Slot_.enc r_7)),(20,(vI (r_7.length:Int))),(21,(vI (k_9:Int))),(25,(vL Entry.enc l_1)),(26,(vI (l_1.length:Int))),(27,(vI (k_20:Int)))] [(n_4,some (.cells 4 (Player.v p_2))),(n_5,some (.cells 2 [(vI wv_3.From),(vI wv_3.To)])),(n_6,some (bM D.str (D.int .i64) v_31)),(n_19,some (.cells 3 (Slot_.v x_11))),(n_30,some (.cells 13 (Entry.v x_22)))] ?_ ?_
     ·rcases ak h_32 with⟨hc_33,h_32⟩|⟨hc_33,h_32⟩
      ·refine aD rfl hc_33 (ax (aa (.map n_6) (aI Eb rfl 1 rfl wz (aA 0 4 il ft sz9 ag9 rfl rfl (vS x_22.Item) rfl wz (wB (eq:=eqS) (kD:=D.str) (vD:=(D.int .i64)) (es:=s_25) (k:=x_22.Item) (z:=0) 0 2 il ft (λ_ _=>rfl) Nr (by kernel_rfl) (by kernel_rfl) rfl rfl rfl (vI ((iY eqS s_25 x_22.Item).getD 0)) rfl wz (aI wG rfl 0 rfl wz (aI gN rfl 1 rfl wz (aA 0 3 il ft sz3 ag3 rfl rfl (vI x_11.Time.To) rfl wz (aI wG rfl 0 rfl wz (aI gm rfl 0 rfl wz (aA 0 3 il ft sz3 ag3 rfl rfl (vI x_11.Time.From) rfl wz (aa (vI (w64 (x_11.Time.To-x_11.Time.From))) (aa (vI (w64 (((iY eqS s_25 x_22.Item).getD 0)+(w64 (x_11.Time.To-x_11.Time.From))))) (wm (eq:=eqS) (kD:=D.str) (vD:=(D.int .i64)) (es:=s_25) (k:=x_22.Item) (v:=(w64 (((iY eqS s_25 x_22.Item).getD 0)+(w64 (x_11.Time.To-x_11.Time.From))))) 0 2 il ft (λ_ _=>rfl) Nr (by kernel_rfl) rfl rfl rfl rfl wz (af ?_)))))))))))))))
       obtain rfl:=ae h_32
       exact cu
      ·refine aB rfl hc_33 (ay ?_)
       obtain rfl:=ae h_32
       exact cu
     ·rintro ⟨⟩ _ sl_ H_ hp_ hq_
      refine aO _ hp_ hq_ (ax (fJ (bE hD_23 hn_24) wz rfl (aa (vI ((k_20+1:Nat):Int)) (af ?_))))
      obtain rfl:=ae hc_26
      exact aS (k_20+1,l_21,v_31) ⟨hL_27,aR hD_23⟩ (ls_ _) rfl (aJ rfl)
   ·rintro s_25 ho_ sl_ H_ hp_ hq_
    subst ho_
    refine aO _ hp_ hq_ (ax (fJ (bE hD_12 hn_13) wz rfl (aa (vI ((k_9+1:Nat):Int)) (af ?_))))
    obtain rfl:=ae hc_15
    exact aS (k_9+1,l_10,s_25) ⟨hL_16,aR hD_12⟩ (ls_ _) rfl (aJ rfl)
 ·rintro s_14 ho_ sl_ H_ hp_ hq_
  subst ho_
  refine aO _ hp_ hq_ (aj (aa .nil (af (au (aj (aa (.map n_6) (h_range (f:=(λ(e:ByteArray×Int)=>(D.str e.1,V.d ((D.int .i64) e.2)))) (left:=s_14) 2 (by kernel_rfl) rfl rfl (NQ _) wz (λn_34=>af (kz (λn_41 => ?_))))))))))
  have hj_48:=JK hF
  refine ML (σ:=(List Pair)) (N:=Nm) (λp=>(λ(s_40:List Pair) (n_43:Nm)=>([(12,(gV n_43 2 s_40))]:SL_)) p.1 p.2) (λp=>(λ(s_40:List Pair) (n_43:Nm)=>([(n_4,some (.cells 4 (Player.v p_2))),(n_5,some (.cells 2 [(vI wv_3.From),(vI wv_3.To)])),(n_43,gB 2 Pair.enc s_40)]:Hp)) p.1 p.2) (λp=>(λ(s_40:List Pair) (n_43:Nm)=>([(12,(gV n_43 2 s_40)),(51,(.ref n_34 0 0))]:SL_)) p.1 p.2) (λ(l_35:List (ByteArray×Int)) (cu_36:Option (ByteArray×Int))=>(λp=>(λ(s_40:List Pair) (n_43:Nm)=>([(n_4,some (.cells 4 (Player.v p_2))),(n_5,some (.cells 2 [(vI wv_3.From),(vI wv_3.To)])),(n_34,some (iB (λ(e:ByteArray×Int)=>(D.str e.1,V.d ((D.int .i64) e.2))) cu_36 l_35)),(n_43,gB 2 Pair.enc s_40)]:Hp)) p.1 p.2)) (λx s=>jX x s) _ _ s_14 (([]:List Pair),n_41) hj_48 rfl (aJ rfl) ?_ ?_
  ·rintro ⟨l_35,cu_36,s_40,n_43⟩ hL_45
   dsimp only at hL_45
   refine aj (h_next (f:=(λ(e:ByteArray×Int)=>(D.str e.1,V.d ((D.int .i64) e.2)))) (cur:=cu_36) (left:=l_35) 2 rfl rfl wz (λhl_ => ?_) (λi_37 x_38 he_39 => ?_))
   ·refine aK (vB false) wz rfl (af ?_)
    refine au (aB rfl rfl (aU ?_))
    exact aV (s_40,n_43) (hL_45 [] (by rw [hl_])) rfl (M3 [0,1,3] (by decide) rfl)
   ·obtain ⟨c_,hc_44,hM_46⟩:=Mq hL_45 he_39
    refine aK (vB true) wz rfl (af ?_)
    refine au (aD rfl rfl (ay ?_))
    unfold jX at hc_44
    refine aN (aj (h_entry (f:=(λ(e:ByteArray×Int)=>(D.str e.1,V.d ((D.int .i64) e.2)))) (e:=x_38) (left:=(l_35.eraseIdx i_37)) 2 rfl rfl (.tup [(vS x_38.1),(vI x_38.2)]) rfl wz (aa (vS x_38.1) (aa (vI x_38.2) (aa (vS x_38.1) (aa (vI x_38.2) (af (ax (aa (gV n_43 2 s_40) (aa (vS x_38.1) (aa (vI x_38.2) ?_)))))))))))
    obtain ⟨r_49,hr_50,hc_44⟩:=bind_some hc_44
    refine aF (vH hr_50) rfl hb38 rfl rfl rfl rfl wz (aK (.d (.agg (Pair.enc (⟨x_38.1,r_49⟩:Pair)))) wz (by kernel_rfl) (dU (([(⟨x_38.1,r_49⟩:Pair)]:List Pair).map Pair.enc) Ey ez44 rfl rfl rfl rfl rfl wz ?_))
    obtain ⟨a_51,hz_52,hc_44⟩:=bind_some hc_44
    refine kI 0 il ft (i:=3) el44 el44 Ej z62 rfl (by decide) by62 (by decide) (λ_=>rfl) rfl rfl rfl hz_52 wz (λn_53=>aa (gV n_53 2 a_51) (af ?_))
    obtain rfl:=ae hc_44
    exact aS (l_35.eraseIdx i_37,some x_38,a_51,n_53) (hM_46 _ rfl) (NK he_39) rfl (aJ rfl)
  ·rintro ⟨s_40,n_43⟩ hF sl_ H_ hp_ hq_
   dsimp only [bv]at hF
   refine aO _ hp_ hq_ (aj (aa (gV n_43 2 s_40) ?_))
   obtain ⟨r_54,hr_55,hF⟩:=bind_some hF
   obtain ⟨_,hs_56,hF⟩:=bind_some hF
   replace hs_56:=oG hs_56
   refine nG 0 [] 2 0 il ft (lN hr_55) rfl hb51 rfl rfl rfl (by kernel_rfl) rfl (.inl rfl) rfl (by kernel_rfl) (by kernel_rfl) (by kernel_rfl) (by kernel_rfl) rfl (by decide) (by kernel_rfl) oz (xP hs_56) wz ([(n_4,some (.cells 4 (Player.v p_2))),(n_5,some (.cells 2 [(vI wv_3.From),(vI wv_3.To)])),(n_43,gB 2 Pair.enc r_54)]:Hp) (by kernel_rfl) (bL (v':=(gV n_43 2 r_54)) 12 rfl (bU hs_56.symm) (bL (v':=(gV n_43 2 r_54)) 64 rfl (bU hs_56.symm) (af (aj (aa (gV n_43 2 r_54) (aa (gV n_43 2 r_54) (af (iw 2 rfl (dJ 6 2 rfl rfl (dJ 12 2 rfl rfl (dJ 64 2 rfl rfl (dJ 66 2 rfl rfl ?_))))))))))))
   obtain rfl:=ae hF
   exact aC (aL [(vL Pair.enc r_54)] ⟨rfl,trivial⟩)
theorem nX {s1_1:(List Pair)} {s2_2:(List Pair)} {r:Bool} (hF:d9 s1_1 s2_2=some r) :
  FnM Tryz.prog 22 [(vL Pair.enc s1_1),(vL Pair.enc s2_2)] [] (vB r) []:=by
 refine FnM.of_wH ⟨Tryz.prog,26,[],[]⟩ rfl Tryz.func22 rfl rfl (lb_ rfl) (by kernel_rfl) ?_
 unfold d9 at hF
 refine aj (aa (vB false) (af (au (aj (aa (vL Pair.enc s1_1) (bN Mw rfl wz (aa (vL Pair.enc s2_2) (bN Mw rfl wz (aa (vB ((s1_1.length:Int) != (s2_2.length:Int))) (af ?_))))))))))
 rcases ak hF with⟨hc_3,hF⟩|⟨hc_3,hF⟩
 ·refine aD rfl hc_3 (aj (aa (vB false) (af ?_)))
  obtain rfl:=ae hF
  exact aC (aL [(vB false)] ⟨rfl,trivial⟩)
 ·refine aB rfl hc_3 (ay (au (aj (aa (vL Pair.enc s1_1) (bN Mw rfl wz (aa (vI 0) (af ?_)))))))
  obtain ⟨o_12,hj_13,hF⟩:=bind_some hF
  obtain ⟨hn_8,hj_13⟩:=bf hj_13
  refine cK (λ(s_9:Unit)=>[]) (λ(s_9:Unit)=>[]) (λ(k_4:Nat)=>(λ(s_9:Unit)=>[(0,(vL Pair.enc s1_1)),(1,(vL Pair.enc s2_2)),(12,(vI (s1_1.length:Int))),(13,(vI (k_4:Int)))])) (λk x s=>dE s2_2 k x s) o_12 s1_1 () hj_13 rfl (aJ rfl) ?_ ?_
  ·rintro ⟨k_4,l_5,s_9⟩ ⟨hL_11,hD_7⟩
   dsimp only at hL_11 hD_7
   cases l_5 with
   | nil =>
    obtain rfl:=ae hL_11
    refine aj (aa (vB (decide ((k_4:Int)<(s1_1.length:Int)))) (af ?_))
    refine au (aB rfl (drop_nil hD_7) (aU ?_))
    exact aV (s_9) rfl rfl (aJ rfl)
   | cons x_6 l_5 =>
    obtain ⟨c_,hc_10,hL_11⟩:=bind_some hL_11
    refine aj (aa (vB (decide ((k_4:Int)<(s1_1.length:Int)))) (af ?_))
    refine au (aD rfl (bz hD_7) (ay ?_))
    unfold dE at hc_10
    refine au (aN (aj (aa (vI (k_4:Int)) (aa (vI (k_4:Int)) (af (au (dA (aa (vL Pair.enc s1_1) (aa (vI (k_4:Int)) (eU Ey rfl rfl (bH hD_7) rfl wz (bI Ej Me rfl (.d (.agg (Pair.enc x_6))) rfl wz (aa (vL Pair.enc s2_2) (aa (vI (k_4:Int)) ?_)))))))))))))
    obtain ⟨y_14,hy_15,hc_10⟩:=bind_some hc_10
    refine eU Ey rfl rfl hy_15 rfl wz (bI Ej Me rfl (.d (.agg (Pair.enc y_14))) rfl wz (aK (vB (!((x_6.Name.toList==y_14.Name.toList)&&((x_6.Value.toList==y_14.Value.toList)&&true)))) wz (by kernel_rfl) (af ?_)))
    rcases ak hc_10 with⟨hc_16,hc_10⟩|⟨hc_16,hc_10⟩
    ·refine aD rfl hc_16 (aj (aa (vB false) (af ?_)))
     obtain rfl:=ae hc_10
     obtain rfl:=ae hL_11
     obtain rfl:=ae hF
     exact aC (aL [(vB false)] ⟨rfl,trivial⟩)
    ·refine aB rfl hc_16 (ay (ax (fJ (bE hD_7 hn_8) wz rfl (aa (vI ((k_4+1:Nat):Int)) (af ?_)))))
     obtain rfl:=ae hc_10
     exact aS (k_4+1,l_5,()) ⟨hL_11,aR hD_7⟩ (ls_ _) rfl (aJ rfl)
  ·rintro s_9 ho_ sl_ H_ hp_ hq_
   subst ho_
   refine aO _ hp_ hq_ (aj (aa (vB true) (af ?_)))
   obtain rfl:=ae hF
   exact aC (aL [(vB true)] ⟨rfl,trivial⟩)
theorem uA {l_1:(List Int)} {r:Bool} (hF:jL l_1=some r) :
  FnM Tryz.prog 3 [(vL eI l_1)] [] (vB r) []:=by
 refine FnM.of_wH ⟨Tryz.prog,129,[],[]⟩ rfl Tryz.func3 rfl rfl (lb_ rfl) (by kernel_rfl) ?_
 unfold jL at hF
 refine aj (aa (vB false) (af (aj (aa (vL eI l_1) (aK (.d (.agg (Stream.enc (⟨l_1,0⟩:Stream)))) wz (by kernel_rfl) (bZ 0 (.inl rfl) [(vL eI l_1),(vI 0)] rfl rfl wz (λn_2=>aa (.ref n_2 0 0) (af (aj (aa (.ref n_2 0 0) ?_))))))))))
 obtain ⟨r_3,hr_4,hF⟩:=bind_some hF
 refine bA 0 [0] il ft (vY hr_4) rfl hb4 rfl (by kernel_rfl) (by kernel_rfl) (by kernel_rfl) (by kernel_rfl) (by kernel_rfl) (by kernel_rfl) (by kernel_rfl) (by decide) (by kernel_rfl) wz (vL Entry.enc r_3.1) (by kernel_rfl) ([(n_2,some (.cells 2 [(vL eI r_3.2.L),(vI r_3.2.f_at)]))]:Hp) (by kernel_rfl) (aa (.ref n_2 0 0) ?_)
 obtain ⟨r_6,hr_7,hF⟩:=bind_some hF
 refine bA 0 [0] il ft (xH hr_7) rfl hb5 rfl (by kernel_rfl) (by kernel_rfl) (by kernel_rfl) (by kernel_rfl) (by kernel_rfl) (by kernel_rfl) (by kernel_rfl) (by decide) (by kernel_rfl) wz (.d (.agg (Player.enc r_6.1))) (by kernel_rfl) ([(n_2,some (.cells 2 [(vL eI r_6.2.L),(vI r_6.2.f_at)]))]:Hp) (by kernel_rfl) (aa (.ref n_2 0 0) ?_)
 obtain ⟨r_9,hr_10,hF⟩:=bind_some hF
 refine bA 0 [0] il ft (zA hr_10) rfl hb6 rfl (by kernel_rfl) (by kernel_rfl) (by kernel_rfl) (by kernel_rfl) (by kernel_rfl) (by kernel_rfl) (by kernel_rfl) (by decide) (by kernel_rfl) wz (.d (.agg (Window.enc r_9.1))) (by kernel_rfl) ([(n_2,some (.cells 2 [(vL eI r_9.2.L),(vI r_9.2.f_at)]))]:Hp) (by kernel_rfl) (bR 0 (.inl rfl) z30 rfl wz (λn_12=>bR 0 (.inl rfl) z33 rfl wz (λn_13=>aa (vL Entry.enc r_3.1) (eH 0 il ft 1 kQ rfl rfl (Player.v r_6.1) rfl wz (eH 0 il ft 2 eX rfl rfl [(vI r_9.1.From),(vI r_9.1.To)] rfl wz (af (aj (aa (vL Entry.enc r_3.1) (aA 0 1 il ft kQ mO rfl rfl (.d (.agg (Player.enc r_6.1))) rfl wz (aA 0 2 il ft eX iT rfl rfl (.d (.agg (Window.enc r_9.1))) rfl wz ?_))))))))))
 obtain ⟨r_14,hr_15,hF⟩:=bind_some hF
 refine aF (xN hr_15) rfl hb7 rfl rfl rfl rfl wz (aa (.tup [(vL Slot_.enc r_14.1),(vI r_14.2)]) (aa (vL Slot_.enc r_14.1) (aa (vI r_14.2) (aa (vL Slot_.enc r_14.1) (aa (vI r_14.2) (af (aj (aa (vL Entry.enc r_3.1) (aA 0 1 il ft kQ mO rfl rfl (.d (.agg (Player.enc r_6.1))) rfl wz (aA 0 2 il ft eX iT rfl rfl (.d (.agg (Window.enc r_9.1))) rfl wz ?_))))))))))
 obtain ⟨r_16,hr_17,hF⟩:=bind_some hF
 refine aF (zu hr_17) rfl hb8 rfl rfl rfl rfl wz (aa (.tup [(vL eS r_16.1),(vI r_16.2)]) (aa (vL eS r_16.1) (aa (vI r_16.2) (aa (vL eS r_16.1) (aa (vI r_16.2) (af (aO (H0:=([(n_2,some (.cells 2 [(vL eI r_9.2.L),(vI r_9.2.f_at)])),(n_12,some (.cells 4 (Player.v r_6.1))),(n_13,some (.cells 2 [(vI r_9.1.From),(vI r_9.1.To)]))]:Hp)) ([(4,(vL Entry.enc r_3.1)),(5,(.ref n_12 0 0)),(6,(.ref n_13 0 0)),(7,(vL Slot_.enc r_14.1)),(8,(vI r_14.2)),(9,(vL eS r_16.1)),(10,(vI r_16.2))]:SL_) (by kernel_rfl) (DJ (by kernel_rfl)) (aj (aa (vL Entry.enc r_3.1) (aA 0 1 il ft kQ mO rfl rfl (.d (.agg (Player.enc r_6.1))) rfl wz (aA 0 2 il ft eX iT rfl rfl (.d (.agg (Window.enc r_9.1))) rfl wz ?_)))))))))))
 obtain ⟨r_18,hr_19,hF⟩:=bind_some hF
 refine aF (Aw hr_19) rfl hb9 rfl rfl rfl rfl wz (aa (.tup [(vL Window.enc r_18.1),(vI r_18.2)]) (aa (vL Window.enc r_18.1) (aa (vI r_18.2) (aa (vL Window.enc r_18.1) (aa (vI r_18.2) (af (aj (aa (vL Entry.enc r_3.1) (aA 0 1 il ft kQ mO rfl rfl (.d (.agg (Player.enc r_6.1))) rfl wz (aA 0 2 il ft eX iT rfl rfl (.d (.agg (Window.enc r_9.1))) rfl wz ?_))))))))))
 obtain ⟨r_20,hr_21,hF⟩:=bind_some hF
 refine aF (Bb hr_21) rfl hb10 rfl rfl rfl rfl wz (aa (.tup [(vL Pair.enc r_20.1),(vI r_20.2)]) (aa (vL Pair.enc r_20.1) (aa (vI r_20.2) (aa (vL Pair.enc r_20.1) (aa (vI r_20.2) (af (au (dA (aa (vL Entry.enc r_3.1) ?_)))))))))
 obtain ⟨r_22,hr_23,hF⟩:=bind_some hF
 refine aF (xJ hr_23) rfl hb12 rfl rfl rfl rfl wz (aA 2 1 (.inr (by kernel_rfl)) (λ_ _ ag=>trivial) kQ mO rfl rfl (.d (.agg (Player.enc r_6.1))) rfl wz ?_)
 obtain ⟨r_24,hr_25,hF⟩:=bind_some hF
 refine aF (yA hr_25) rfl hb13 rfl rfl rfl rfl wz (aA 4 2 (.inr (by kernel_rfl)) (λ_ _ ag=>⟨.inl ⟨rfl,rfl⟩,trivial⟩) eX iT rfl rfl (.d (.agg (Window.enc r_9.1))) rfl wz ?_)
 obtain ⟨r_26,hr_27,hF⟩:=bind_some hF
 refine aF (AQ hr_27) rfl hb14 rfl rfl rfl rfl wz (dU (([r_22,r_24,r_26]:List Int).map eI) es89 ez89 rfl rfl rfl rfl rfl wz ?_)
 obtain ⟨r_28,hr_29,hF⟩:=bind_some hF
 refine aF (Jf hr_29) rfl hb11 rfl rfl rfl rfl wz (aa (vI r_28) (af (au (au ?_))))
 obtain ⟨v_30,h_31,hF⟩:=bind_some hF
 refine aQ [(4,(vL Entry.enc r_3.1)),(5,(.ref n_12 0 0)),(6,(.ref n_13 0 0)),(7,(vL Slot_.enc r_14.1)),(9,(vL eS r_16.1)),(11,(vL Window.enc r_18.1)),(13,(vL Pair.enc r_20.1)),(15,(vI r_28)),(78,(vB v_30))] [(n_2,some (.cells 2 [(vL eI r_9.2.L),(vI r_9.2.f_at)])),(n_12,some (.cells 4 (Player.v r_6.1))),(n_13,some (.cells 2 [(vI r_9.1.From),(vI r_9.1.To)]))] ?_ ?_
 ·refine ax (aa (vI r_14.2) (aa (vI r_28) (aa (vB (r_14.2 != r_28)) ?_)))
  rcases ak h_31 with⟨hc_32,h_31⟩|⟨hc_32,h_31⟩
  ·refine aH rfl hc_32 wz (ah (ah (ah (aa (vB true) (aa (vB true) (ah (ah (ah (aa (vB true) (aa (vB true) (ah (ah (ah (aa (vB true) (af ?_)))))))))))))))
   obtain rfl:=ae h_31
   exact cu
  ·refine aH rfl hc_32 wz (aK (vI r_16.2) wa rfl (aK (vI r_28) wa rfl (aK (vB (r_16.2 != r_28)) wa rfl (aa (vB (r_16.2 != r_28)) ?_))))
   rcases ak h_31 with⟨hc_33,h_31⟩|⟨hc_33,h_31⟩
   ·refine aH rfl hc_33 wz (ah (ah (ah (aa (vB true) (aa (vB true) (ah (ah (ah (aa (vB true) (af ?_))))))))))
    obtain rfl:=ae h_31
    exact cu
   ·refine aH rfl hc_33 wz (aK (vI r_18.2) wa rfl (aK (vI r_28) wa rfl (aK (vB (r_18.2 != r_28)) wa rfl (aa (vB (r_18.2 != r_28)) ?_))))
    rcases ak h_31 with⟨hc_34,h_31⟩|⟨hc_34,h_31⟩
    ·refine aH rfl hc_34 wz (ah (ah (ah (aa (vB true) (af ?_)))))
     obtain rfl:=ae h_31
     exact cu
    ·refine aH rfl hc_34 wz (aK (vI r_20.2) wa rfl (aK (vI r_28) wa rfl (aK (vB (r_20.2 != r_28)) wa rfl (aa (vB (r_20.2 != r_28)) (af ?_)))))
     obtain rfl:=ae h_31
     exact cu
 ·rintro ⟨⟩ _ sl_ H_ hp_ hq_
  refine aO _ hp_ hq_ ?_
  rcases ak hF with⟨hc_35,hF⟩|⟨hc_35,hF⟩
  ·refine aD rfl hc_35 (aj (aa (vB false) (af ?_)))
   obtain rfl:=ae hF
   exact aC (aL [(vB false)] ⟨rfl,trivial⟩)
  ·refine aB rfl hc_35 (ay (au (aj (aa (vI r_28) (aa (vB (r_28 != 0)) (af ?_))))))
   rcases ak hF with⟨hc_36,hF⟩|⟨hc_36,hF⟩
   ·refine aD rfl hc_36 (au ?_)
    obtain ⟨v_37,h_38,hF⟩:=bind_some hF
    refine aQ [(2,(vB v_37))] [(n_2,some (.cells 2 [(vL eI r_9.2.L),(vI r_9.2.f_at)])),(n_12,some (.cells 4 (Player.v r_6.1))),(n_13,some (.cells 2 [(vI r_9.1.From),(vI r_9.1.To)]))] ?_ ?_
    ·refine ax (aa (vL Slot_.enc r_14.1) (bN BZ rfl wz (aa (vL eS r_16.1) (bN xI rfl wz (aa (vI (w64 ((r_14.1.length:Int)+(r_16.1.length:Int)))) (aa (vL Window.enc r_18.1) (bN El rfl wz (aa (vI (w64 ((w64 ((r_14.1.length:Int)+(r_16.1.length:Int)))+(r_18.1.length:Int)))) (aa (vL Pair.enc r_20.1) (bN Mw rfl wz (aa (vI (w64 ((w64 ((w64 ((r_14.1.length:Int)+(r_16.1.length:Int)))+(r_18.1.length:Int)))+(r_20.1.length:Int)))) (aa (vB ((w64 ((w64 ((w64 ((r_14.1.length:Int)+(r_16.1.length:Int)))+(r_18.1.length:Int)))+(r_20.1.length:Int)))==0)) ?_))))))))))))
     rcases ak h_38 with⟨hc_39,h_38⟩|⟨hc_39,h_38⟩
     ·refine aH rfl hc_39 wz ?_
      obtain ⟨r_40,hr_41,h_38⟩:=bind_some h_38
      refine aF (zN hr_41) rfl hb15 rfl rfl rfl rfl wa (aa (vB r_40) (aa (vB r_40) (af ?_)))
      obtain rfl:=ae h_38
      exact cu
     ·refine aH rfl hc_39 wz (ah (aa (vB false) (aa (vB false) (af ?_))))
      obtain rfl:=ae h_38
      exact cu
    ·rintro ⟨⟩ _ sl_ H_ hp_ hq_
     refine aO _ hp_ hq_ ?_
     obtain rfl:=ae hF
     exact aC (aL [(vB v_37)] ⟨rfl,trivial⟩)
   ·refine aB rfl hc_36 (ay (au ?_))
    obtain ⟨v_42,h_43,hF⟩:=bind_some hF
    refine aQ [(2,(vB v_42))] [(n_2,some (.cells 2 [(vL eI r_9.2.L),(vI r_9.2.f_at)])),(n_12,some (.cells 4 (Player.v r_6.1))),(n_13,some (.cells 2 [(vI r_9.1.From),(vI r_9.1.To)]))] ?_ ?_
    ·refine ax (aa (vL Slot_.enc r_14.1) (aa (vL Entry.enc r_3.1) (aA 0 1 il ft kQ mO rfl rfl (.d (.agg (Player.enc r_6.1))) rfl wz (aA 0 2 il ft eX iT rfl rfl (.d (.agg (Window.enc r_9.1))) rfl wz ?_))))
     obtain ⟨r_44,hr_45,h_43⟩:=bind_some h_43
     refine aF (mD hr_45) rfl hb17 rfl rfl rfl rfl wz ?_
     obtain ⟨r_46,hr_47,h_43⟩:=bind_some h_43
     refine aF (nW hr_47) rfl hb16 rfl rfl rfl rfl wz ?_
     rcases ak h_43 with⟨hc_48,h_43⟩|⟨hc_48,h_43⟩
     ·refine aH rfl hc_48 wz (aK (vL eS r_16.1) wa rfl (aK (vL Entry.enc r_3.1) wa rfl (aA 0 1 il ft kQ mO rfl rfl (.d (.agg (Player.enc r_6.1))) rfl wa (aA 0 2 il ft eX iT rfl rfl (.d (.agg (Window.enc r_9.1))) rfl wa ?_))))
      obtain ⟨r_49,hr_50,h_43⟩:=bind_some h_43
      refine aF (D8 hr_50) rfl hb19 rfl rfl rfl rfl wa ?_
      obtain ⟨r_51,hr_52,h_43⟩:=bind_some h_43
      refine aF (pW hr_52) rfl hb18 rfl rfl rfl rfl wa (aa (vB r_51) ?_)
      rcases ak h_43 with⟨hc_53,h_43⟩|⟨hc_53,h_43⟩
      ·refine aH rfl hc_53 wz (aK (vL Window.enc r_18.1) wa rfl (aK (vL Entry.enc r_3.1) wa rfl (aA 0 1 il ft kQ mO rfl rfl (.d (.agg (Player.enc r_6.1))) rfl wa (aA 0 2 il ft eX iT rfl rfl (.d (.agg (Window.enc r_9.1))) rfl wa ?_))))
       obtain ⟨r_54,hr_55,h_43⟩:=bind_some h_43
       refine aF (EA hr_55) rfl hb21 rfl rfl rfl rfl wa ?_
       obtain ⟨r_56,hr_57,h_43⟩:=bind_some h_43
       refine aF (mG hr_57) rfl hb20 rfl rfl rfl rfl wa (aa (vB r_56) ?_)
       rcases ak h_43 with⟨hc_58,h_43⟩|⟨hc_58,h_43⟩
       ·refine aH rfl hc_58 wz (aK (vL Pair.enc r_20.1) wa rfl (aK (vL Entry.enc r_3.1) wa rfl (aA 0 1 il ft kQ mO rfl rfl (.d (.agg (Player.enc r_6.1))) rfl wa (aA 0 2 il ft eX iT rfl rfl (.d (.agg (Window.enc r_9.1))) rfl wa ?_))))
        obtain ⟨r_59,hr_60,h_43⟩:=bind_some h_43
        refine aF (Eu hr_60) rfl hb23 rfl rfl rfl rfl wa ?_
        obtain ⟨r_61,hr_62,h_43⟩:=bind_some h_43
        refine aF (nX hr_62) rfl hb22 rfl rfl rfl rfl wa (aa (vB r_61) ?_)
        rcases ak h_43 with⟨hc_63,h_43⟩|⟨hc_63,h_43⟩
        ·refine aH rfl hc_63 wz ?_
         obtain ⟨r_64,hr_65,h_43⟩:=bind_some h_43
         refine aF (zN hr_65) rfl hb15 rfl rfl rfl rfl wa (aa (vB r_64) (aa (vB r_64) (af ?_)))
         obtain rfl:=ae h_43
         exact cu
        ·refine aH rfl hc_63 wz (ah (aa (vB false) (aa (vB false) (af ?_))))
         obtain rfl:=ae h_43
         exact cu
       ·refine aH rfl hc_58 wz (ah (ah (ah (ah (ah (ah (aa (vB false) (aa (vB false) (ah (aa (vB false) (aa (vB false) (af ?_))))))))))))
        obtain rfl:=ae h_43
        exact cu
      ·refine aH rfl hc_53 wz (ah (ah (ah (ah (ah (ah (aa (vB false) (aa (vB false) (ah (ah (ah (ah (ah (ah (aa (vB false) (aa (vB false) (ah (aa (vB false) (aa (vB false) (af ?_))))))))))))))))))))
       obtain rfl:=ae h_43
       exact cu
     ·refine aH rfl hc_48 wz (ah (ah (ah (ah (ah (ah (aa (vB false) (aa (vB false) (ah (ah (ah (ah (ah (ah (aa (vB false) (aa (vB false) (ah (ah (ah (ah (ah (ah (aa (vB false) ?_)))))))))))))))))))))))
      refine aa (vB false) (ah (aa (vB false) (aa (vB false) (af ?_))))
      obtain rfl:=ae h_43
      exact cu
    ·rintro ⟨⟩ _ sl_ H_ hp_ hq_
     refine aO _ hp_ hq_ ?_
     obtain rfl:=ae hF
     exact aC (aL [(vB v_42)] ⟨rfl,trivial⟩)
end Go.Proofs.YthcdokkcamcnmaaGreatDoor.Law

