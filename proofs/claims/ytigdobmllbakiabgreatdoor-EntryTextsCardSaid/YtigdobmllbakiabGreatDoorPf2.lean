/-
 The machine computes these plain functions (written by a program of ours).
-/
import Derived.Test.YtigdobmllbakiabGreatDoorFacts
import Derived.Test.YtigdobmllbakiabGreatDoorDefs
import Derived.Test.YtigdobmllbakiabGreatDoorPf1
import Derived.Test.YtigdobmllbakiabGreatDoorShelf
open Go Go.Eng Go.Proofs
namespace Go.Proofs.YtigdobmllbakiabGreatDoor.Law
set_option maxRecDepth 100000
set_option linter.unusedVariables false
set_option maxHeartbeats 1000000
theorem nU {l_1:(List Entry)} {r:ByteArray} (hF:fC l_1=some r) :
  FnM Tryz.prog 8 [(vL Entry.enc l_1)] [] (vS r) []:=by
 refine FnM.of_wH ⟨Tryz.prog,19,[],[]⟩ rfl Tryz.func8 rfl rfl (lb_ rfl) (by kernel_rfl) ?_
 unfold fC at hF
 refine aj (aa (vS (⟨#[]⟩:ByteArray)) (ah (aj (aa (vS (⟨#[]⟩:ByteArray)) (ah (au (aj (aa (vL Entry.enc l_1) (dE yf rfl wz (aa (vI 0) (ah ?_)))))))))))
 obtain ⟨o_10,hj_11,hF⟩:=bind_some hF
 obtain ⟨hn_6,hj_11⟩:=bI hj_11
 refine fH (λ(s_7:ByteArray)=>[(3,(vS s_7))]) (λ(s_7:ByteArray)=>[]) (λ(k_2:Nat)=>(λ(s_7:ByteArray)=>[(3,(vS s_7)),(6,(vL Entry.enc l_1)),(7,(vI (l_1.length:Int))),(8,(vI (k_2:Int)))])) (λk x s=>fG k x s) o_10 l_1 (⟨#[]⟩:ByteArray) hj_11 rfl (aN rfl) ?_ ?_
 ·rintro ⟨k_2,l_3,s_7⟩ ⟨hL_9,hD_5⟩
  dsimp only at hL_9 hD_5
  cases l_3 with
  | nil =>
   obtain rfl:=ae hL_9
   refine aj (aa (vB (decide ((k_2:Int)<(l_1.length:Int)))) (ah ?_))
   refine au (aF rfl (drop_nil hD_5) (bM ?_))
   exact bG (s_7) rfl rfl (aN rfl)
  | cons x_4 l_3 =>
   obtain ⟨c_,hc_8,hL_9⟩:=bind_some hL_9
   refine aj (aa (vB (decide ((k_2:Int)<(l_1.length:Int)))) (ah ?_))
   refine au (aD rfl (bQ hD_5) (aC ?_))
   unfold fG at hc_8
   refine au (bg (aj (dJ vF rfl rfl (dB hD_5) rfl wz (bD iw lN rfl (.d (.agg (Entry.enc x_4))) rfl wz (gY 0 (.inl rfl) z39 rfl wz (λn_12=>gK 0 il ft 0 iw rfl rfl (Entry.v x_4) rfl wz (ah (ax (aa (vS s_7) (aK 0 0 il ft iw lN rfl rfl (.d (.agg (Entry.enc x_4))) rfl wz ?_))))))))))
   obtain ⟨r_13,hr_14,hc_8⟩:=bind_some hc_8
   refine aA (kS hr_14) rfl hb29 rfl rfl rfl rfl wz ?_
   obtain ⟨s_15,hz_16,hc_8⟩:=bind_some hc_8
   refine xn rfl rfl hz_16 wz ?_
   obtain ⟨s_17,hz_18,hc_8⟩:=bind_some hc_8
   refine xn rfl rfl hz_18 wz (aa (vS s_17) (ah (ax (gM (bZ hD_5 hn_6) wz rfl (aa (vI ((k_2+1:Nat):Int)) (ah ?_))))))
   obtain rfl:=ae hc_8
   exact bK (k_2+1,l_3,s_17) ⟨hL_9,bv hD_5⟩ (ls_ _) rfl (aN rfl)
 ·rintro s_7 ho_ sl_ H_ hp_ hq_
  subst ho_
  refine aU _ hp_ hq_ (aj (aa (vS s_7) (aa (vS s_7) (ah ?_))))
  obtain rfl:=ae hF
  exact aB (aM [(vS s_7)] ⟨rfl,trivial⟩)
theorem qX {s_1:Stream} {t_2:ByteArray} {withv_3:ByteArray} {r:ByteArray×Stream} (hF:fK s_1 t_2 withv_3=some r) :
  FnM Tryz.prog 21 [(.ref (av 0) 0 0),(vS t_2),(vS withv_3)] [(.cells 2 [(vL eI s_1.L),(vI s_1.f_at)])] (vS r.1) [some (.cells 2 [(vL eI r.2.L),(vI r.2.f_at)])]:=by
 refine FnM.of_wH ⟨Tryz.prog,63,[],[]⟩ rfl Tryz.func21 rfl rfl (lb_ rfl) (by kernel_rfl) ?_
 unfold fK at hF
 refine aj (aa (vS (⟨#[]⟩:ByteArray)) (ah (au (au ?_))))
 obtain ⟨v_4,h_5,hF⟩:=bind_some hF
 refine aW [(0,(.ref (av 0) 0 0)),(1,(vS t_2)),(2,(vS withv_3)),(14,(vB v_4))] [((av 0),some (.cells 2 [(vL eI s_1.L),(vI s_1.f_at)]))] ?_ ?_
 ·refine ax (aa (vS t_2) (aa (vB (sEq t_2 (⟨#[]⟩:ByteArray))) ?_))
  rcases ak h_5 with⟨hc_6,h_5⟩|⟨hc_6,h_5⟩
  ·refine ay rfl hc_6 wz (af (af (aa (vB true) (ah ?_))))
   obtain rfl:=ae h_5
   exact cu
  ·refine ay rfl hc_6 wz (aG (vS withv_3) wa rfl (aG (vB (sEq withv_3 (⟨#[]⟩:ByteArray))) wa rfl (aa (vB (sEq withv_3 (⟨#[]⟩:ByteArray))) (ah ?_))))
   obtain rfl:=ae h_5
   exact cu
 ·rintro ⟨⟩ _ sl_ H_ hp_ hq_
  refine aU _ hp_ hq_ ?_
  rcases ak hF with⟨hc_7,hF⟩|⟨hc_7,hF⟩
  ·refine aD rfl hc_7 (aj (aa (vS withv_3) (aa (vS withv_3) (ah ?_))))
   obtain rfl:=ae hF
   exact aB (rU (.inr rfl) [(vS withv_3)] _ [0] [av 0] ⟨rfl,trivial⟩ (.cons (gZ rfl rfl) (.nil)) (by kernel_rfl) ⟨(by kernel_rfl),trivial⟩ (by decide) (by kernel_rfl))
  ·refine aF rfl hc_7 (aC (aj (aa (.ref (av 0) 0 0) (aa (vS t_2) (jc un9 rfl wz ?_)))))
   obtain ⟨r_8,hr_9,hF⟩:=bind_some hF
   refine aQ 0 [0] il ft (dn hr_9) rfl zS rfl (by kernel_rfl) (by kernel_rfl) (by kernel_rfl) (by kernel_rfl) (by kernel_rfl) (by kernel_rfl) (by kernel_rfl) (by decide) (by kernel_rfl) wz (vI r_8.1) (by kernel_rfl) ([((av 0),some (.cells 2 [(vL eI r_8.2.L),(vI r_8.2.f_at)]))]:Hp) (by kernel_rfl) (aa (vI r_8.1) (ah (aj (aa (vS withv_3) (aa (.ref (av 0) 0 0) (aa (vS withv_3) (jc un9 rfl wz ?_)))))))
   obtain ⟨r_11,hr_12,hF⟩:=bind_some hF
   refine aQ 0 [0] il ft (dn hr_12) rfl zS rfl (by kernel_rfl) (by kernel_rfl) (by kernel_rfl) (by kernel_rfl) (by kernel_rfl) (by kernel_rfl) (by kernel_rfl) (by decide) (by kernel_rfl) wz (vI r_11.1) (by kernel_rfl) ([((av 0),some (.cells 2 [(vL eI r_11.2.L),(vI r_11.2.f_at)]))]:Hp) (by kernel_rfl) ?_
   obtain ⟨b_14,hy_15,hF⟩:=bind_some hF
   refine sH un9 rfl rfl hy_15 wz (aa (.d (.int .u8 (b_14.toNat:Int))) (ah (au (aj (aa (.ref (av 0) 0 0) ?_)))))
   obtain ⟨r_16,hr_17,hF⟩:=bind_some hF
   refine aQ 0 [0] il ft (dn hr_17) rfl zS rfl (by kernel_rfl) (by kernel_rfl) (by kernel_rfl) (by kernel_rfl) (by kernel_rfl) (by kernel_rfl) (by kernel_rfl) (by decide) (by kernel_rfl) wz (vI r_16.1) (by kernel_rfl) ([((av 0),some (.cells 2 [(vL eI r_16.2.L),(vI r_16.2.f_at)]))]:Hp) (by kernel_rfl) (ah (bg (aj (aa (vB (r_16.1==0)) (aa (vB (r_16.1==0)) (ah ?_))))))
   rcases ak hF with⟨hc_19,hF⟩|⟨hc_19,hF⟩
   ·refine aD rfl hc_19 (au (eB (aa (vS t_2) (aa (vI r_8.1) ?_))))
    obtain ⟨y_20,hy_21,hF⟩:=bind_some hF
    refine iL un9 rfl rfl hy_21 wz (aa (.d (.int .u8 (b_14.toNat:Int))) (Bw un5 un21 rfl wz (ES un21 un9 rfl wz ?_)))
    obtain ⟨s_22,hz_23,hF⟩:=bind_some hF
    refine xn rfl rfl hz_23 wz (aa (vS t_2) (aa (vI r_8.1) (aa (vI (w64 (r_8.1+1))) ?_)))
    obtain ⟨y_24,hy_25,hF⟩:=bind_some hF
    refine jl un9 rfl rfl hy_25 wz ?_
    obtain ⟨s_26,hz_27,hF⟩:=bind_some hF
    refine xn rfl rfl hz_27 wz (aa (vS s_26) (ah ?_))
    obtain rfl:=ae hF
    exact aB (rU (.inr rfl) [(vS s_26)] _ [0] [av 0] ⟨rfl,trivial⟩ (.cons (gZ rfl rfl) (.nil)) (by kernel_rfl) ⟨(by kernel_rfl),trivial⟩ (by decide) (by kernel_rfl))
   ·refine aF rfl hc_19 (aj (aa (vB (r_16.1==1)) (aa (vB (r_16.1==1)) (ah ?_))))
    rcases ak hF with⟨hc_28,hF⟩|⟨hc_28,hF⟩
    ·refine aD rfl hc_28 (au (eB (aa (vS t_2) (aa (vI r_8.1) ?_))))
     obtain ⟨y_29,hy_30,hF⟩:=bind_some hF
     refine iL un9 rfl rfl hy_30 wz (aa (.d (.int .u8 (b_14.toNat:Int))) (Bw un5 un21 rfl wz (ES un21 un9 rfl wz ?_)))
     obtain ⟨s_31,hz_32,hF⟩:=bind_some hF
     refine xn rfl rfl hz_32 wz (aa (vS t_2) (aa (vI r_8.1) ?_))
     obtain ⟨y_33,hy_34,hF⟩:=bind_some hF
     refine jl un9 rfl rfl hy_34 wz ?_
     obtain ⟨s_35,hz_36,hF⟩:=bind_some hF
     refine xn rfl rfl hz_36 wz (aa (vS s_35) (ah (aU (H0:=([((av 0),some (.cells 2 [(vL eI r_16.2.L),(vI r_16.2.f_at)]))]:Hp)) ([(6,(vS s_35))]:SL_) (by kernel_rfl) (pJ (by kernel_rfl)) ?_)))
     obtain rfl:=ae hF
     exact aB (rU (.inr rfl) [(vS s_35)] _ [0] [av 0] ⟨rfl,trivial⟩ (.cons (gZ rfl rfl) (.nil)) (by kernel_rfl) ⟨(by kernel_rfl),trivial⟩ (by decide) (by kernel_rfl))
    ·refine aF rfl hc_28 (aC (au (eB (aa (vS t_2) (aa (vI r_8.1) ?_)))))
     obtain ⟨y_37,hy_38,hF⟩:=bind_some hF
     refine iL un9 rfl rfl hy_38 wz (aa (vS t_2) (aa (vI r_8.1) (aa (vI (w64 (r_8.1+1))) ?_)))
     obtain ⟨y_39,hy_40,hF⟩:=bind_some hF
     refine jl un9 rfl rfl hy_40 wz ?_
     obtain ⟨s_41,hz_42,hF⟩:=bind_some hF
     refine xn rfl rfl hz_42 wz (aa (vS s_41) (ah ?_))
     obtain rfl:=ae hF
     exact aB (rU (.inr rfl) [(vS s_41)] _ [0] [av 0] ⟨rfl,trivial⟩ (.cons (gZ rfl rfl) (.nil)) (by kernel_rfl) ⟨(by kernel_rfl),trivial⟩ (by decide) (by kernel_rfl))
theorem sS {x0:ByteArray} {x1:ByteArray} {x2:ByteArray} {x3:Int} {r:ByteArray} (hF:strings_Replace x0 x1 x2 x3=some r) :
  FnM Tryz.prog 22 [(vS x0),(vS x1),(vS x2),(vI x3)] [] (vS r) [] :=
 D7 rfl Tryz.strings_Replace xk hF
theorem pQ {s_1:Stream} {r:ByteArray×Stream} (hF:fU s_1=some r) :
  FnM Tryz.prog 5 [(.ref (av 0) 0 0)] [(.cells 2 [(vL eI s_1.L),(vI s_1.f_at)])] (vS r.1) [some (.cells 2 [(vL eI r.2.L),(vI r.2.f_at)])]:=by
 refine FnM.of_wH ⟨Tryz.prog,27,[],[]⟩ rfl Tryz.func5 rfl rfl (lb_ rfl) (by kernel_rfl) ?_
 unfold fU at hF
 refine aj (aa (vS (⟨#[]⟩:ByteArray)) (ah (aj (aa (.ref (av 0) 0 0) ?_))))
 obtain ⟨r_2,hr_3,hF⟩:=bind_some hF
 refine aQ 0 [0] il ft (nL hr_3) rfl hb14 rfl (by kernel_rfl) (by kernel_rfl) (by kernel_rfl) (by kernel_rfl) (by kernel_rfl) (by kernel_rfl) (by kernel_rfl) (by decide) (by kernel_rfl) wz (vL Entry.enc r_2.1) (by kernel_rfl) ([((av 0),some (.cells 2 [(vL eI r_2.2.L),(vI r_2.2.f_at)]))]:Hp) (by kernel_rfl) ?_
 obtain ⟨r_5,hr_6,hF⟩:=bind_some hF
 refine aA (nU hr_6) rfl hb8 rfl rfl rfl rfl wz (aa (vS r_5) (ah (au (aj (aa (.ref (av 0) 0 0) (dw (([0,0,1,2]:List Int).map eI) eX lq rfl rfl rfl rfl rfl wz ?_))))))
 obtain ⟨r_7,hr_8,hF⟩:=bind_some hF
 refine aQ 0 [0] il ft (aZ hr_8) rfl rT rfl (by kernel_rfl) (by kernel_rfl) (by kernel_rfl) (by kernel_rfl) (by kernel_rfl) (by kernel_rfl) (by kernel_rfl) (by decide) (by kernel_rfl) wz (vI r_7.1) (by kernel_rfl) ([((av 0),some (.cells 2 [(vL eI r_7.2.L),(vI r_7.2.f_at)]))]:Hp) (by kernel_rfl) (aa (vI 0) (ah ?_))
 obtain ⟨o_18,hj_19,hF⟩:=bind_some hF
 obtain ⟨hn_14,hj_19⟩:=bI hj_19
 refine fH (λ(s_15:ByteArray×(List Int)×Int)=>[(0,(.ref (av 0) 0 0)),(3,(vS s_15.1))]) (λ(s_15:ByteArray×(List Int)×Int)=>[((av 0),some (.cells 2 [(vL eI s_15.2.1),(vI s_15.2.2)]))]) (λ(k_10:Nat)=>(λ(s_15:ByteArray×(List Int)×Int)=>[(0,(.ref (av 0) 0 0)),(3,(vS s_15.1)),(9,(vI r_7.1)),(10,(vI (k_10:Int)))])) (λk x s=>eO k x s) o_18 (List.range (r_7.1).toNat) (r_5,r_7.2.L,r_7.2.f_at) hj_19 rfl (aN rfl) ?_ ?_
 ·rintro ⟨k_10,l_11,s_15⟩ ⟨hL_17,hD_13⟩
  dsimp only at hL_17 hD_13
  cases l_11 with
  | nil =>
   obtain rfl:=ae hL_17
   refine aj (aa (vB (decide ((k_10:Int)<r_7.1))) (ah ?_))
   refine au (aF rfl (vG hD_13) (bM ?_))
   exact bG (s_15) rfl rfl (aN rfl)
  | cons x_12 l_11 =>
   obtain ⟨c_,hc_16,hL_17⟩:=bind_some hL_17
   refine aj (aa (vB (decide ((k_10:Int)<r_7.1))) (ah ?_))
   refine au (aD rfl (tq hD_13) (aC ?_))
   unfold eO at hc_16
   refine au (bg (ax (aa (.ref (av 0) 0 0) (aa (vS s_15.1) ?_))))
   obtain ⟨r_20,hr_21,hc_16⟩:=bind_some hc_16
   refine aQ 0 [0] il ft (qX hr_21) rfl hb21 rfl (by kernel_rfl) (by kernel_rfl) (by kernel_rfl) (by kernel_rfl) (by kernel_rfl) (by kernel_rfl) (by kernel_rfl) (by decide) (by kernel_rfl) wz (vS r_20.1) (by kernel_rfl) ([((av 0),some (.cells 2 [(vL eI r_20.2.L),(vI r_20.2.f_at)]))]:Hp) (by kernel_rfl) (aa (vS r_20.1) (ah (ax (gM (wF hD_13 hn_14) wz rfl (aa (vI ((k_10+1:Nat):Int)) (ah ?_))))))
   obtain rfl:=ae hc_16
   exact bK (k_10+1,l_11,(r_20.1,r_20.2.L,r_20.2.f_at)) ⟨hL_17,bv hD_13⟩ (ls_ _) rfl (aN rfl)
 ·rintro s_15 ho_ sl_ H_ hp_ hq_
  subst ho_
  refine aU _ hp_ hq_ (au (aj (aa (.ref (av 0) 0 0) ?_)))
  obtain ⟨r_23,hr_24,hF⟩:=bind_some hF
  refine aQ 0 [0] il ft (bU hr_24) rfl yu rfl (by kernel_rfl) (by kernel_rfl) (by kernel_rfl) (by kernel_rfl) (by kernel_rfl) (by kernel_rfl) (by kernel_rfl) (by decide) (by kernel_rfl) wz (vB r_23.1) (by kernel_rfl) ([((av 0),some (.cells 2 [(vL eI r_23.2.L),(vI r_23.2.f_at)]))]:Hp) (by kernel_rfl) (ah ?_)
  obtain ⟨v_26,h_27,hF⟩:=bind_some hF
  refine aW [(3,(vS v_26.1))] [((av 0),some (.cells 2 [(vL eI v_26.2.1),(vI v_26.2.2)]))] ?_ ?_
  ·rcases ak h_27 with⟨hc_28,h_27⟩|⟨hc_28,h_27⟩
   ·refine aD rfl hc_28 (ax (aa (vS s_15.1) (aa (.ref (av 0) 0 0) (dw (([(⟨#[32,111,110,32]⟩:ByteArray),(⟨#[32,45,32]⟩:ByteArray),(⟨#[32,49,50,55,32]⟩:ByteArray),(⟨#[44]⟩:ByteArray)]:List ByteArray).map eS) fF nK rfl rfl rfl rfl rfl wz ?_))))
    obtain ⟨r_29,hr_30,h_27⟩:=bind_some h_27
    refine aQ 0 [0] il ft (fI hr_30) rfl FH rfl (by kernel_rfl) (by kernel_rfl) (by kernel_rfl) (by kernel_rfl) (by kernel_rfl) (by kernel_rfl) (by kernel_rfl) (by decide) (by kernel_rfl) wz (vS r_29.1) (by kernel_rfl) ([((av 0),some (.cells 2 [(vL eI r_29.2.L),(vI r_29.2.f_at)]))]:Hp) (by kernel_rfl) (aa (.ref (av 0) 0 0) (dw (([(⟨#[32,111,102,102,32]⟩:ByteArray),(⟨#[32,45,45,32]⟩:ByteArray),(⟨#[32]⟩:ByteArray),(⟨#[44,44]⟩:ByteArray)]:List ByteArray).map eS) fF nK rfl rfl rfl rfl rfl wz ?_))
    obtain ⟨r_32,hr_33,h_27⟩:=bind_some h_27
    refine aQ 0 [0] il ft (fI hr_33) rfl FH rfl (by kernel_rfl) (by kernel_rfl) (by kernel_rfl) (by kernel_rfl) (by kernel_rfl) (by kernel_rfl) (by kernel_rfl) (by decide) (by kernel_rfl) wz (vS r_32.1) (by kernel_rfl) ([((av 0),some (.cells 2 [(vL eI r_32.2.L),(vI r_32.2.f_at)]))]:Hp) (by kernel_rfl) ?_
    obtain ⟨r_35,hr_36,h_27⟩:=bind_some h_27
    refine aA (sS hr_36) rfl hb22 rfl rfl rfl rfl wz (aa (vS r_35) (ah ?_))
    obtain rfl:=ae h_27
    exact cu
   ·refine aF rfl hc_28 (aC ?_)
    obtain rfl:=ae h_27
    exact cu
  ·rintro ⟨⟩ _ sl_ H_ hp_ hq_
   refine aU _ hp_ hq_ (aj (aa (vS v_26.1) (aa (vS v_26.1) (ah ?_))))
   obtain rfl:=ae hF
   exact aB (rU (.inr rfl) [(vS v_26.1)] _ [0] [av 0] ⟨rfl,trivial⟩ (.cons (gZ rfl rfl) (.nil)) (by kernel_rfl) ⟨(by kernel_rfl),trivial⟩ (by decide) (by kernel_rfl))
theorem p9 {s_1:ByteArray} {r:Bool} (hF:jH s_1=some r) :
  FnM Tryz.prog 72 [(vS s_1)] [] (vB r) []:=by
 refine FnM.of_wH ⟨Tryz.prog,48,[],[]⟩ rfl Tryz.func72 rfl rfl (lb_ rfl) (by kernel_rfl) ?_
 unfold jH at hF
 refine aj (aa (vB false) (ah (au (aj (aa (vI 0) (ah ?_))))))
 obtain ⟨o_10,hj_11,hF⟩:=bind_some hF
 obtain ⟨nq_33,hj_11⟩:=nz hj_11
 refine vO (λ(s_7:Int)=>[(0,(vS s_1))]) (λ(s_7:Int)=>[]) (λ(k_2:Nat)=>(λ(s_7:Int)=>[(0,(vS s_1)),(3,(vI s_7))])) (λs=>ib s_1 s) o_10 nq_33 0 hj_11 rfl (aN rfl) ?_ ?_
 ·rintro ⟨k_2,s_7⟩ hL_9
  dsimp only at hL_9
  cases k_2 with
  | zero=>cases hL_9
  | succ k_2 =>
   obtain ⟨c_,hc_8,hL_9⟩:=bind_some hL_9
   unfold ib at hc_8
   refine au (aj (aa (vI s_7) (aa (vS s_1) (jc un9 rfl wz (aa (vB (decide (s_7<(s_1.size:Int)))) (ah ?_))))))
   rcases ak hc_8 with⟨hc_12,hc_8⟩|⟨hc_12,hc_8⟩
   ·refine aD rfl hc_12 (aC (au (bg (aj (aa (vS s_1) (aa (vI s_7) ?_))))))
    obtain ⟨b_13,hy_14,hc_8⟩:=bind_some hc_8
    refine sH un9 rfl rfl hy_14 wz (aa (.d (.int .u8 (b_13.toNat:Int))) (ah (au ?_)))
    obtain ⟨v_15,h_16,hc_8⟩:=bind_some hc_8
    refine aW [(0,(vS s_1)),(3,(vI s_7)),(40,(vB v_15))] [] ?_ ?_
    ·refine ax (aa (.d (.int .u8 (b_13.toNat:Int))) (aa (vB (decide ((b_13.toNat:Int)>=97))) ?_))
     rcases ak h_16 with⟨hc_17,h_16⟩|⟨hc_17,h_16⟩
     ·refine ay rfl hc_17 wz (aG (.d (.int .u8 (b_13.toNat:Int))) wa rfl (aG (vB (decide ((b_13.toNat:Int)<=122))) wa rfl (aa (vB (decide ((b_13.toNat:Int)<=122))) ?_)))
      rcases ak h_16 with⟨hc_18,h_16⟩|⟨hc_18,h_16⟩
      ·refine ay rfl hc_18 wz (af (af (af (aY (wn rfl rfl) (aY (wn rfl rfl) (aY (wn rfl rfl) (aY (wn rfl rfl) (aY (wn rfl rfl) (aY (wn rfl rfl) (aY (wn rfl rfl) (aY (wn rfl rfl) (aY (wn rfl rfl) (aY (wn rfl rfl) (aY (wn rfl rfl) (aY (wn rfl rfl) (aY (wn rfl rfl) (aY (wn rfl rfl) (af (aa (vB true) (aa (vB false) (ah ?_)))))))))))))))))))))
       obtain rfl:=ae h_16
       exact cu
      ·refine ay rfl hc_18 wz (aG (vI s_7) wa rfl (aG (vB (decide (s_7>0))) wa rfl ?_))
       rcases ak h_16 with⟨hc_19,h_16⟩|⟨hc_19,h_16⟩
       ·refine ay rfl hc_19 wa (aG (.d (.int .u8 (b_13.toNat:Int))) wa rfl (aG (vB (decide ((b_13.toNat:Int)>=48))) wa rfl ?_))
        rcases ak h_16 with⟨hc_20,h_16⟩|⟨hc_20,h_16⟩
        ·refine ay rfl hc_20 wa (aG (.d (.int .u8 (b_13.toNat:Int))) wa rfl (aG (vB (decide ((b_13.toNat:Int)<=57))) wa rfl (aG (vB (decide ((b_13.toNat:Int)<=57))) wa rfl ?_)))
         rcases ak h_16 with⟨hc_21,h_16⟩|⟨hc_21,h_16⟩
         ·refine ay rfl hc_21 wa (af (af (aG (vB true) wa rfl (aG (vB true) wa rfl (af (af (aG (vB true) wa rfl (aG (vB true) wa rfl (aa (vB true) (aa (vB false) (ah ?_)))))))))))
          obtain rfl:=ae h_16
          exact cu
         ·refine ay rfl hc_21 wa (aG (.d (.int .u8 (b_13.toNat:Int))) wa rfl (aG (vB ((b_13.toNat:Int)==45)) wa rfl (aG (vB ((b_13.toNat:Int)==45)) wa rfl ?_)))
          rcases ak h_16 with⟨hc_22,h_16⟩|⟨hc_22,h_16⟩
          ·refine ay rfl hc_22 wa (af (af (aG (vB true) wa rfl (aG (vB true) wa rfl (aa (vB true) (aa (vB false) (ah ?_)))))))
           obtain rfl:=ae h_16
           exact cu
          ·refine ay rfl hc_22 wa (aG (.d (.int .u8 (b_13.toNat:Int))) wa rfl (aG (vB ((b_13.toNat:Int)==95)) wa rfl (aG (vB ((b_13.toNat:Int)==95)) wa rfl (aG (vB ((b_13.toNat:Int)==95)) wa rfl (aa (vB ((b_13.toNat:Int)==95)) (aa (vB (!((b_13.toNat:Int)==95))) (ah ?_)))))))
           obtain rfl:=ae h_16
           exact cu
        ·refine ay rfl hc_20 wa (af (af (aG (vB false) wa rfl (aG (vB false) wa rfl (aG (.d (.int .u8 (b_13.toNat:Int))) wa rfl (aG (vB ((b_13.toNat:Int)==45)) wa rfl (aG (vB ((b_13.toNat:Int)==45)) wa rfl ?_)))))))
         rcases ak h_16 with⟨hc_23,h_16⟩|⟨hc_23,h_16⟩
         ·refine ay rfl hc_23 wa (af (af (aG (vB true) wa rfl (aG (vB true) wa rfl (aa (vB true) (aa (vB false) (ah ?_)))))))
          obtain rfl:=ae h_16
          exact cu
         ·refine ay rfl hc_23 wa (aG (.d (.int .u8 (b_13.toNat:Int))) wa rfl (aG (vB ((b_13.toNat:Int)==95)) wa rfl (aG (vB ((b_13.toNat:Int)==95)) wa rfl (aG (vB ((b_13.toNat:Int)==95)) wa rfl (aa (vB ((b_13.toNat:Int)==95)) (aa (vB (!((b_13.toNat:Int)==95))) (ah ?_)))))))
          obtain rfl:=ae h_16
          exact cu
       ·refine ay rfl hc_19 wa (af (af (af (aY (wn rfl rfl) (aY (wn rfl rfl) (af (af (aY (wn rfl rfl) (aY (wn rfl rfl) (af (af (aY (wn rfl rfl) (aY (wn rfl rfl) (af (aG (vB false) wa rfl (aa (vB false) (aa (vB true) (ah ?_))))))))))))))))))
        obtain rfl:=ae h_16
        exact cu
     ·refine ay rfl hc_17 wz (af (af (aa (vB false) (aa (vB false) (aG (vI s_7) wa rfl (aG (vB (decide (s_7>0))) wa rfl ?_))))))
      rcases ak h_16 with⟨hc_24,h_16⟩|⟨hc_24,h_16⟩
      ·refine ay rfl hc_24 wa (aG (.d (.int .u8 (b_13.toNat:Int))) wa rfl (aG (vB (decide ((b_13.toNat:Int)>=48))) wa rfl ?_))
       rcases ak h_16 with⟨hc_25,h_16⟩|⟨hc_25,h_16⟩
       ·refine ay rfl hc_25 wa (aG (.d (.int .u8 (b_13.toNat:Int))) wa rfl (aG (vB (decide ((b_13.toNat:Int)<=57))) wa rfl (aG (vB (decide ((b_13.toNat:Int)<=57))) wa rfl ?_)))
        rcases ak h_16 with⟨hc_26,h_16⟩|⟨hc_26,h_16⟩
        ·refine ay rfl hc_26 wa (af (af (aG (vB true) wa rfl (aG (vB true) wa rfl (af (af (aG (vB true) wa rfl (aG (vB true) wa rfl (aa (vB true) (aa (vB false) (ah ?_)))))))))))
         obtain rfl:=ae h_16
         exact cu
        ·refine ay rfl hc_26 wa (aG (.d (.int .u8 (b_13.toNat:Int))) wa rfl (aG (vB ((b_13.toNat:Int)==45)) wa rfl (aG (vB ((b_13.toNat:Int)==45)) wa rfl ?_)))
         rcases ak h_16 with⟨hc_27,h_16⟩|⟨hc_27,h_16⟩
         ·refine ay rfl hc_27 wa (af (af (aG (vB true) wa rfl (aG (vB true) wa rfl (aa (vB true) (aa (vB false) (ah ?_)))))))
          obtain rfl:=ae h_16
          exact cu
         ·refine ay rfl hc_27 wa (aG (.d (.int .u8 (b_13.toNat:Int))) wa rfl (aG (vB ((b_13.toNat:Int)==95)) wa rfl (aG (vB ((b_13.toNat:Int)==95)) wa rfl (aG (vB ((b_13.toNat:Int)==95)) wa rfl (aa (vB ((b_13.toNat:Int)==95)) (aa (vB (!((b_13.toNat:Int)==95))) (ah ?_)))))))
          obtain rfl:=ae h_16
          exact cu
       ·refine ay rfl hc_25 wa (af (af (aG (vB false) wa rfl (aG (vB false) wa rfl (aG (.d (.int .u8 (b_13.toNat:Int))) wa rfl (aG (vB ((b_13.toNat:Int)==45)) wa rfl (aG (vB ((b_13.toNat:Int)==45)) wa rfl ?_)))))))
        rcases ak h_16 with⟨hc_28,h_16⟩|⟨hc_28,h_16⟩
        ·refine ay rfl hc_28 wa (af (af (aG (vB true) wa rfl (aG (vB true) wa rfl (aa (vB true) (aa (vB false) (ah ?_)))))))
         obtain rfl:=ae h_16
         exact cu
        ·refine ay rfl hc_28 wa (aG (.d (.int .u8 (b_13.toNat:Int))) wa rfl (aG (vB ((b_13.toNat:Int)==95)) wa rfl (aG (vB ((b_13.toNat:Int)==95)) wa rfl (aG (vB ((b_13.toNat:Int)==95)) wa rfl (aa (vB ((b_13.toNat:Int)==95)) (aa (vB (!((b_13.toNat:Int)==95))) (ah ?_)))))))
         obtain rfl:=ae h_16
         exact cu
      ·refine ay rfl hc_24 wa (af (af (af (aY (wn rfl rfl) (aY (wn rfl rfl) (af (af (aY (wn rfl rfl) (aY (wn rfl rfl) (af (af (aY (wn rfl rfl) (aY (wn rfl rfl) (af (aG (vB false) wa rfl (aa (vB false) (aa (vB true) (ah ?_))))))))))))))))))
       obtain rfl:=ae h_16
       exact cu
    ·rintro ⟨⟩ _ sl_ H_ hp_ hq_
     refine aU _ hp_ hq_ ?_
     rcases ak hc_8 with⟨hc_29,hc_8⟩|⟨hc_29,hc_8⟩
     ·refine aD rfl hc_29 (aj (aa (vB false) (ah ?_)))
      obtain rfl:=ae hc_8
      obtain rfl:=ae hL_9
      obtain rfl:=ae hF
      exact aB (aM [(vB false)] ⟨rfl,trivial⟩)
     ·refine aF rfl hc_29 (aC (ax (aa (vI s_7) (aa (vI (w64 (s_7+1))) (aa (vI (w64 (s_7+1))) (ah ?_))))))
      obtain rfl:=ae hc_8
      exact bK (k_2,(w64 (s_7+1))) hL_9 (ls_ _) rfl (aN rfl)
   ·refine aF rfl hc_12 (bM ?_)
    obtain rfl:=ae hc_8
    obtain rfl:=ae hL_9
    exact bG (s_7) rfl rfl (aN rfl)
 ·rintro s_7 ho_ sl_ H_ hp_ hq_
  subst ho_
  refine aU _ hp_ hq_ (au ?_)
  obtain ⟨v_30,h_31,hF⟩:=bind_some hF
  refine aW [(2,(vB v_30))] [] ?_ ?_
  ·refine ax (aa (vS s_1) (aa (vB (sNe s_1 (⟨#[]⟩:ByteArray))) ?_))
   rcases ak h_31 with⟨hc_32,h_31⟩|⟨hc_32,h_31⟩
   ·refine ay rfl hc_32 wz (aG (vS s_1) wa rfl (jc un9 rfl wa (aG (vB (decide ((s_1.size:Int)<=40))) wa rfl (aa (vB (decide ((s_1.size:Int)<=40))) (aa (vB (decide ((s_1.size:Int)<=40))) (ah ?_))))))
    obtain rfl:=ae h_31
    exact cu
   ·refine ay rfl hc_32 wz (af (af (af (aa (vB false) (aa (vB false) (ah ?_))))))
    obtain rfl:=ae h_31
    exact cu
  ·rintro ⟨⟩ _ sl_ H_ hp_ hq_
   refine aU _ hp_ hq_ ?_
   obtain rfl:=ae hF
   exact aB (aM [(vB v_30)] ⟨rfl,trivial⟩)
theorem dY {n_1:Int} {low_2:Int} {high_3:Int} {r:Bool} (hF:bE n_1 low_2 high_3=some r) :
  FnM Tryz.prog 63 [(vI n_1),(vI low_2),(vI high_3)] [] (vB r) []:=by
 refine FnM.of_wH ⟨Tryz.prog,15,[],[]⟩ rfl Tryz.func63 rfl rfl (lb_ rfl) (by kernel_rfl) ?_
 unfold bE at hF
 refine aj (aa (vB false) (ah (au ?_)))
 obtain ⟨v_4,h_5,hF⟩:=bind_some hF
 refine aW [(6,(vB v_4))] [] ?_ ?_
 ·refine ax (aa (vI n_1) (aa (vI low_2) (aa (vB (decide (n_1<low_2))) ?_)))
  rcases ak h_5 with⟨hc_6,h_5⟩|⟨hc_6,h_5⟩
  ·refine ay rfl hc_6 wz (af (af (af (aa (vB true) (aa (vB true) (ah ?_))))))
   obtain rfl:=ae h_5
   exact cu
  ·refine ay rfl hc_6 wz (aG (vI n_1) wa rfl (aG (vI high_3) wa rfl (aG (vB (decide (n_1>high_3))) wa rfl (aa (vB (decide (n_1>high_3))) (aa (vB (decide (n_1>high_3))) (ah ?_))))))
   obtain rfl:=ae h_5
   exact cu
 ·rintro ⟨⟩ _ sl_ H_ hp_ hq_
  refine aU _ hp_ hq_ ?_
  obtain rfl:=ae hF
  exact aB (aM [(vB v_4)] ⟨rfl,trivial⟩)
theorem Ba {n_1:Int} {r:Bool} (hF:oL n_1=some r) :
  FnM Tryz.prog 92 [(vI n_1)] [] (vB r) []:=by
 refine FnM.of_wH ⟨Tryz.prog,9,[],[]⟩ rfl Tryz.func92 rfl rfl (lb_ rfl) (by kernel_rfl) ?_
 unfold oL at hF
 refine aj (aa (vB false) (ah (au ?_)))
 obtain ⟨v_2,h_3,hF⟩:=bind_some hF
 refine aW [(2,(vB v_2))] [] ?_ ?_
 ·refine ax (aa (vI n_1) (aa (vB (decide (n_1>=0))) ?_))
  rcases ak h_3 with⟨hc_4,h_3⟩|⟨hc_4,h_3⟩
  ·refine ay rfl hc_4 wz (aG (vI n_1) wa rfl (aG (vB (decide (n_1<=4000))) wa rfl (aa (vB (decide (n_1<=4000))) (aa (vB (decide (n_1<=4000))) (ah ?_)))))
   obtain rfl:=ae h_3
   exact cu
  ·refine ay rfl hc_4 wz (af (af (aa (vB false) (aa (vB false) (ah ?_)))))
   obtain rfl:=ae h_3
   exact cu
 ·rintro ⟨⟩ _ sl_ H_ hp_ hq_
  refine aU _ hp_ hq_ ?_
  obtain rfl:=ae hF
  exact aB (aM [(vB v_2)] ⟨rfl,trivial⟩)
theorem oM {l_1:(List Int)} {r:Int} (hF:eu l_1=some r) :
  FnM Tryz.prog 73 [(vL eI l_1)] [] (vI r) []:=by
 refine FnM.of_wH ⟨Tryz.prog,30,[],[]⟩ rfl Tryz.func73 rfl rfl (lb_ rfl) (by kernel_rfl) ?_
 unfold eu at hF
 refine aj (aa (vI 0) (ah (au (aj (aa (vL eI l_1) (dE pE rfl wz (aa (vB (decide ((l_1.length:Int)>100))) (ah ?_))))))))
 rcases ak hF with⟨hc_2,hF⟩|⟨hc_2,hF⟩
 ·refine aD rfl hc_2 (aj (aa (vI 2) (ah ?_)))
  obtain rfl:=ae hF
  exact aB (aM [(vI 2)] ⟨rfl,trivial⟩)
 ·refine aF rfl hc_2 (aC (au (aj (aa (vL eI l_1) (dE pE rfl wz (aa (vI 0) (ah ?_)))))))
  obtain ⟨o_11,hj_12,hF⟩:=bind_some hF
  obtain ⟨hn_7,hj_12⟩:=bI hj_12
  refine fH (λ(s_8:Unit)=>[]) (λ(s_8:Unit)=>[]) (λ(k_3:Nat)=>(λ(s_8:Unit)=>[(0,(vL eI l_1)),(8,(vL eI l_1)),(9,(vI (l_1.length:Int))),(10,(vI (k_3:Int)))])) (λk x s=>fM l_1 k x s) o_11 l_1 () hj_12 rfl (aN rfl) ?_ ?_
  ·rintro ⟨k_3,l_4,s_8⟩ ⟨hL_10,hD_6⟩
   dsimp only at hL_10 hD_6
   cases l_4 with
   | nil =>
    obtain rfl:=ae hL_10
    refine aj (aa (vB (decide ((k_3:Int)<(l_1.length:Int)))) (ah ?_))
    refine au (aF rfl (drop_nil hD_6) (bM ?_))
    exact bG (s_8) rfl rfl (aN rfl)
   | cons x_5 l_4 =>
    obtain ⟨c_,hc_9,hL_10⟩:=bind_some hL_10
    refine aj (aa (vB (decide ((k_3:Int)<(l_1.length:Int)))) (ah ?_))
    refine au (aD rfl (bQ hD_6) (aC ?_))
    unfold fM at hc_9
    refine au (bg (aj (aa (vI (k_3:Int)) (dJ eX rfl rfl (dB hD_6) rfl wz (bD sz3 ag3 rfl (vI x_5) rfl wz (aa (vI (k_3:Int)) (aa (vI x_5) (ah (au (aj (aa (vI x_5) ?_)))))))))))
    obtain ⟨r_13,hr_14,hc_9⟩:=bind_some hc_9
    refine aA (Ba hr_14) rfl hb92 rfl rfl rfl rfl wz (aa (vB (!r_13)) (ah ?_))
    rcases ak hc_9 with⟨hc_15,hc_9⟩|⟨hc_15,hc_9⟩
    ·refine aD rfl hc_15 (aj (aa (vI 1) (ah ?_)))
     obtain rfl:=ae hc_9
     obtain rfl:=ae hL_10
     obtain rfl:=ae hF
     exact aB (aM [(vI 1)] ⟨rfl,trivial⟩)
    ·refine aF rfl hc_15 (aC (au ?_))
     obtain ⟨v_16,h_17,hc_9⟩:=bind_some hc_9
     refine aW [(0,(vL eI l_1)),(8,(vL eI l_1)),(9,(vI (l_1.length:Int))),(10,(vI (k_3:Int))),(28,(vB v_16))] [] ?_ ?_
     ·refine ax (aa (vI (k_3:Int)) (aa (vB (decide ((k_3:Int)>0))) ?_))
      rcases ak h_17 with⟨hc_18,h_17⟩|⟨hc_18,h_17⟩
      ·refine ay rfl hc_18 wz (aG (vI x_5) wa rfl (aG (vL eI l_1) wa rfl (aG (vI (k_3:Int)) wa rfl (aG (vI (w64 ((k_3:Int)-1))) wa rfl ?_))))
       obtain ⟨y_19,hy_20,h_17⟩:=bind_some h_17
       refine dJ eX rfl rfl hy_20 rfl wa (bD sz3 ag3 rfl (vI y_19) rfl wa (aG (vB (decide (x_5<=y_19))) wa rfl (aa (vB (decide (x_5<=y_19))) (ah ?_))))
       obtain rfl:=ae h_17
       exact cu
      ·refine ay rfl hc_18 wz (af (af (af (af (af (af (af (aa (vB false) (ah ?_)))))))))
       obtain rfl:=ae h_17
       exact cu
     ·rintro ⟨⟩ _ sl_ H_ hp_ hq_
      refine aU _ hp_ hq_ ?_
      rcases ak hc_9 with⟨hc_21,hc_9⟩|⟨hc_21,hc_9⟩
      ·refine aD rfl hc_21 (aj (aa (vI 7) (ah ?_)))
       obtain rfl:=ae hc_9
       obtain rfl:=ae hL_10
       obtain rfl:=ae hF
       exact aB (aM [(vI 7)] ⟨rfl,trivial⟩)
      ·refine aF rfl hc_21 (aC (ax (gM (bZ hD_6 hn_7) wz rfl (aa (vI ((k_3+1:Nat):Int)) (ah ?_)))))
       obtain rfl:=ae hc_9
       exact bK (k_3+1,l_4,()) ⟨hL_10,bv hD_6⟩ (ls_ _) rfl (aN rfl)
  ·rintro s_8 ho_ sl_ H_ hp_ hq_
   subst ho_
   refine aU _ hp_ hq_ (aj (aa (vI 0) (ah ?_)))
   obtain rfl:=ae hF
   exact aB (aM [(vI 0)] ⟨rfl,trivial⟩)
theorem tJ {l_1:(List ByteArray)} {r:Int} (hF:gW l_1=some r) :
  FnM Tryz.prog 93 [(vL eS l_1)] [] (vI r) []:=by
 refine FnM.of_wH ⟨Tryz.prog,27,[],[]⟩ rfl Tryz.func93 rfl rfl (lb_ rfl) (by kernel_rfl) ?_
 unfold gW at hF
 refine aj (aa (vI 0) (ah (au (aj (aa (vL eS l_1) (dE lS rfl wz (aa (vI 0) (ah ?_))))))))
 obtain ⟨o_10,hj_11,hF⟩:=bind_some hF
 obtain ⟨hn_6,hj_11⟩:=bI hj_11
 refine fH (λ(s_7:Unit)=>[]) (λ(s_7:Unit)=>[]) (λ(k_2:Nat)=>(λ(s_7:Unit)=>[(0,(vL eS l_1)),(5,(vL eS l_1)),(6,(vI (l_1.length:Int))),(7,(vI (k_2:Int)))])) (λk x s=>eZ l_1 k x s) o_10 l_1 () hj_11 rfl (aN rfl) ?_ ?_
 ·rintro ⟨k_2,l_3,s_7⟩ ⟨hL_9,hD_5⟩
  dsimp only at hL_9 hD_5
  cases l_3 with
  | nil =>
   obtain rfl:=ae hL_9
   refine aj (aa (vB (decide ((k_2:Int)<(l_1.length:Int)))) (ah ?_))
   refine au (aF rfl (drop_nil hD_5) (bM ?_))
   exact bG (s_7) rfl rfl (aN rfl)
  | cons x_4 l_3 =>
   obtain ⟨c_,hc_8,hL_9⟩:=bind_some hL_9
   refine aj (aa (vB (decide ((k_2:Int)<(l_1.length:Int)))) (ah ?_))
   refine au (aD rfl (bQ hD_5) (aC ?_))
   unfold eZ at hc_8
   refine au (bg (aj (aa (vI (k_2:Int)) (dJ fF rfl rfl (dB hD_5) rfl wz (bD sz9 ag9 rfl (vS x_4) rfl wz (aa (vI (k_2:Int)) (aa (vS x_4) (ah (au (aj (aa (vS x_4) ?_)))))))))))
   obtain ⟨r_12,hr_13,hc_8⟩:=bind_some hc_8
   refine aA (p9 hr_13) rfl hb72 rfl rfl rfl rfl wz (aa (vB (!r_12)) (ah ?_))
   rcases ak hc_8 with⟨hc_14,hc_8⟩|⟨hc_14,hc_8⟩
   ·refine aD rfl hc_14 (aj (aa (vI 5) (ah ?_)))
    obtain rfl:=ae hc_8
    obtain rfl:=ae hL_9
    obtain rfl:=ae hF
    exact aB (aM [(vI 5)] ⟨rfl,trivial⟩)
   ·refine aF rfl hc_14 (aC (au ?_))
    obtain ⟨v_15,h_16,hc_8⟩:=bind_some hc_8
    refine aW [(0,(vL eS l_1)),(5,(vL eS l_1)),(6,(vI (l_1.length:Int))),(7,(vI (k_2:Int))),(25,(vB v_15))] [] ?_ ?_
    ·refine ax (aa (vI (k_2:Int)) (aa (vB (decide ((k_2:Int)>0))) ?_))
     rcases ak h_16 with⟨hc_17,h_16⟩|⟨hc_17,h_16⟩
     ·refine ay rfl hc_17 wz (aG (vS x_4) wa rfl (aG (vL eS l_1) wa rfl (aG (vI (k_2:Int)) wa rfl (aG (vI (w64 ((k_2:Int)-1))) wa rfl ?_))))
      obtain ⟨y_18,hy_19,h_16⟩:=bind_some h_16
      refine dJ fF rfl rfl hy_19 rfl wa (bD sz9 ag9 rfl (vS y_18) rfl wa (aG (vB (sLe x_4 y_18)) wa rfl (aa (vB (sLe x_4 y_18)) (ah ?_))))
      obtain rfl:=ae h_16
      exact cu
     ·refine ay rfl hc_17 wz (af (af (af (af (af (af (af (aa (vB false) (ah ?_)))))))))
      obtain rfl:=ae h_16
      exact cu
    ·rintro ⟨⟩ _ sl_ H_ hp_ hq_
     refine aU _ hp_ hq_ ?_
     rcases ak hc_8 with⟨hc_20,hc_8⟩|⟨hc_20,hc_8⟩
     ·refine aD rfl hc_20 (aj (aa (vI 7) (ah ?_)))
      obtain rfl:=ae hc_8
      obtain rfl:=ae hL_9
      obtain rfl:=ae hF
      exact aB (aM [(vI 7)] ⟨rfl,trivial⟩)
     ·refine aF rfl hc_20 (aC (ax (gM (bZ hD_5 hn_6) wz rfl (aa (vI ((k_2+1:Nat):Int)) (ah ?_)))))
      obtain rfl:=ae hc_8
      exact bK (k_2+1,l_3,()) ⟨hL_9,bv hD_5⟩ (ls_ _) rfl (aN rfl)
 ·rintro s_7 ho_ sl_ H_ hp_ hq_
  subst ho_
  refine aU _ hp_ hq_ (aj (aa (vI 0) (ah ?_)))
  obtain rfl:=ae hF
  exact aB (aM [(vI 0)] ⟨rfl,trivial⟩)
theorem qi {l_1:(List ByteArray)} {r:Int} (hF:d9 l_1=some r) :
  FnM Tryz.prog 74 [(vL eS l_1)] [] (vI r) []:=by
 refine FnM.of_wH ⟨Tryz.prog,8,[],[]⟩ rfl Tryz.func74 rfl rfl (lb_ rfl) (by kernel_rfl) ?_
 unfold d9 at hF
 refine aj (aa (vI 0) (ah (au (aj (aa (vL eS l_1) (dE lS rfl wz (aa (vB (decide ((l_1.length:Int)>20))) (ah ?_))))))))
 rcases ak hF with⟨hc_2,hF⟩|⟨hc_2,hF⟩
 ·refine aD rfl hc_2 (aj (aa (vI 2) (ah ?_)))
  obtain rfl:=ae hF
  exact aB (aM [(vI 2)] ⟨rfl,trivial⟩)
 ·refine aF rfl hc_2 (aC (aj (aa (vL eS l_1) ?_)))
  obtain ⟨r_3,hr_4,hF⟩:=bind_some hF
  refine aA (tJ hr_4) rfl hb93 rfl rfl rfl rfl wz (aa (vI r_3) (ah ?_))
  obtain rfl:=ae hF
  exact aB (aM [(vI r_3)] ⟨rfl,trivial⟩)
theorem pI {e_1:Entry} {r:Int} (hF:dW e_1=some r) :
  FnM Tryz.prog 46 [(.d (.agg (Entry.enc e_1)))] [] (vI r) []:=by
 refine FnM.of_wH ⟨Tryz.prog,61,[],[]⟩ rfl Tryz.func46 rfl rfl (lb_ rfl) (by kernel_rfl) ?_
 unfold dW at hF
 refine aj (mo 0 (.inl rfl) (Entry.v e_1) rfl rfl wz (λn_2=>aa (vI 0) (ah (au (au ?_)))))
 obtain ⟨v_3,h_4,hF⟩:=bind_some hF
 refine aW [(1,(.ref n_2 0 0)),(13,(vB v_3))] [(n_2,some (.cells 13 (Entry.v e_1)))] ?_ ?_
 ·refine ax (aL nX rfl 0 rfl wz (aK 0 0 il ft sz9 ag9 rfl rfl (vS e_1.Key) rfl wz ?_))
  obtain ⟨r_5,hr_6,h_4⟩:=bind_some h_4
  refine aA (p9 hr_6) rfl hb72 rfl rfl rfl rfl wz (aa (vB (!r_5)) ?_)
  rcases ak h_4 with⟨hc_7,h_4⟩|⟨hc_7,h_4⟩
  ·refine ay rfl hc_7 wz (af (af (af (af (aa (vB true) (ah ?_))))))
   obtain rfl:=ae h_4
   exact cu
  ·refine ay rfl hc_7 wz (aL yU rfl 1 rfl wa (aK 0 0 il ft sz9 ag9 rfl rfl (vS e_1.Item) rfl wa ?_))
   obtain ⟨r_8,hr_9,h_4⟩:=bind_some h_4
   refine aA (p9 hr_9) rfl hb72 rfl rfl rfl rfl wa (aG (vB (!r_8)) wa rfl (aa (vB (!r_8)) (ah ?_)))
   obtain rfl:=ae h_4
   exact cu
 ·rintro ⟨⟩ _ sl_ H_ hp_ hq_
  refine aU _ hp_ hq_ ?_
  rcases ak hF with⟨hc_10,hF⟩|⟨hc_10,hF⟩
  ·refine aD rfl hc_10 (aj (aa (vI 5) (ah ?_)))
   obtain rfl:=ae hF
   exact aB (aM [(vI 5)] ⟨rfl,trivial⟩)
  ·refine aF rfl hc_10 (aC (au (au ?_)))
   obtain ⟨v_11,h_12,hF⟩:=bind_some hF
   refine aW [(1,(.ref n_2 0 0)),(38,(vB v_11))] [(n_2,some (.cells 13 (Entry.v e_1)))] ?_ ?_
   ·refine ax (aL BQ rfl 2 rfl wz (aK 0 0 il ft sz3 ag3 rfl rfl (vI e_1.Version) rfl wz ?_))
    obtain ⟨r_13,hr_14,h_12⟩:=bind_some h_12
    refine aA (dY hr_14) rfl zI rfl rfl rfl rfl wz ?_
    rcases ak h_12 with⟨hc_15,h_12⟩|⟨hc_15,h_12⟩
    ·refine ay rfl hc_15 wz (af (af (af (af (af (aa (vB true) (aa (vB true) (af (af (af (aa (vB true) (aa (vB true) (af (af (af (aa (vB true) (aa (vB true) (af (af (af (aa (vB true) (ah ?_))))))))))))))))))))))
     obtain rfl:=ae h_12
     exact cu
    ·refine ay rfl hc_15 wz (aL ou rfl 3 rfl wa (aK 0 0 il ft sz3 ag3 rfl rfl (vI e_1.First) rfl wa (aL nH rfl 4 rfl wa (aK 0 0 il ft sz3 ag3 rfl rfl (vI e_1.Last) rfl wa ?_))))
     obtain ⟨r_16,hr_17,h_12⟩:=bind_some h_12
     refine aA (dY hr_17) rfl zI rfl rfl rfl rfl wa (aa (vB r_16) ?_)
     rcases ak h_12 with⟨hc_18,h_12⟩|⟨hc_18,h_12⟩
     ·refine ay rfl hc_18 wz (af (af (af (aa (vB true) (aa (vB true) (af (af (af (aa (vB true) (aa (vB true) (af (af (af (aa (vB true) (ah ?_)))))))))))))))
      obtain rfl:=ae h_12
      exact cu
     ·refine ay rfl hc_18 wz (aL nH rfl 4 rfl wa (aK 0 0 il ft sz3 ag3 rfl rfl (vI e_1.Last) rfl wa (aG (vB (decide (e_1.Last>4000))) wa rfl (aa (vB (decide (e_1.Last>4000))) ?_))))
      rcases ak h_12 with⟨hc_19,h_12⟩|⟨hc_19,h_12⟩
      ·refine ay rfl hc_19 wz (af (af (af (aa (vB true) (aa (vB true) (af (af (af (aa (vB true) (ah ?_))))))))))
       obtain rfl:=ae h_12
       exact cu
      ·refine ay rfl hc_19 wz (aL vN rfl 5 rfl wa (aK 0 0 il ft sz3 ag3 rfl rfl (vI e_1.Every) rfl wa ?_))
       obtain ⟨r_20,hr_21,h_12⟩:=bind_some h_12
       refine aA (dY hr_21) rfl zI rfl rfl rfl rfl wa (aa (vB r_20) ?_)
       rcases ak h_12 with⟨hc_22,h_12⟩|⟨hc_22,h_12⟩
       ·refine ay rfl hc_22 wz (af (af (af (aa (vB true) (ah ?_)))))
        obtain rfl:=ae h_12
        exact cu
       ·refine ay rfl hc_22 wz (aL ww rfl 6 rfl wa (aK 0 0 il ft sz3 ag3 rfl rfl (vI e_1.Days) rfl wa ?_))
        obtain ⟨r_23,hr_24,h_12⟩:=bind_some h_12
        refine aA (dY hr_24) rfl zI rfl rfl rfl rfl wa (aa (vB r_23) (ah ?_))
        obtain rfl:=ae h_12
        exact cu
   ·rintro ⟨⟩ _ sl_ H_ hp_ hq_
    refine aU _ hp_ hq_ ?_
    rcases ak hF with⟨hc_25,hF⟩|⟨hc_25,hF⟩
    ·refine aD rfl hc_25 (aj (aa (vI 1) (ah ?_)))
     obtain rfl:=ae hF
     exact aB (aM [(vI 1)] ⟨rfl,trivial⟩)
    ·refine aF rfl hc_25 (aC (au (aj (aL jv rfl 7 rfl wz (aK 0 0 il ft nY rV rfl rfl (vL eI e_1.Except) rfl wz ?_)))))
     obtain ⟨r_26,hr_27,hF⟩:=bind_some hF
     refine aA (oM hr_27) rfl hb73 rfl rfl rfl rfl wz (aa (vI r_26) (ah (aj (aa (vI r_26) (aa (vB (r_26 != 0)) (ah ?_))))))
     rcases ak hF with⟨hc_28,hF⟩|⟨hc_28,hF⟩
     ·refine aD rfl hc_28 (aj (aa (vI r_26) (aa (vI r_26) (ah ?_))))
      obtain rfl:=ae hF
      exact aB (aM [(vI r_26)] ⟨rfl,trivial⟩)
     ·refine aF rfl hc_28 (aC (au (au ?_)))
      obtain ⟨v_29,h_30,hF⟩:=bind_some hF
      refine aW [(1,(.ref n_2 0 0)),(57,(vB v_29))] [(n_2,some (.cells 13 (Entry.v e_1)))] ?_ ?_
      ·refine ax (aL sM rfl 8 rfl wz (aK 0 0 il ft sz3 ag3 rfl rfl (vI e_1.From) rfl wz ?_))
       obtain ⟨r_31,hr_32,h_30⟩:=bind_some h_30
       refine aA (dY hr_32) rfl zI rfl rfl rfl rfl wz ?_
       rcases ak h_30 with⟨hc_33,h_30⟩|⟨hc_33,h_30⟩
       ·refine ay rfl hc_33 wz (af (af (af (aa (vB true) (aa (vB true) (af (af (af (aa (vB true) (ah ?_))))))))))
        obtain rfl:=ae h_30
        exact cu
       ·refine ay rfl hc_33 wz (aL vM rfl 9 rfl wa (aK 0 0 il ft sz3 ag3 rfl rfl (vI e_1.To) rfl wa ?_))
        obtain ⟨r_34,hr_35,h_30⟩:=bind_some h_30
        refine aA (dY hr_35) rfl zI rfl rfl rfl rfl wa (aa (vB r_34) ?_)
        rcases ak h_30 with⟨hc_36,h_30⟩|⟨hc_36,h_30⟩
        ·refine ay rfl hc_36 wz (af (af (af (aa (vB true) (ah ?_)))))
         obtain rfl:=ae h_30
         exact cu
        ·refine ay rfl hc_36 wz (aL uV rfl 10 rfl wa (aK 0 0 il ft sz3 ag3 rfl rfl (vI e_1.Prio) rfl wa ?_))
         obtain ⟨r_37,hr_38,h_30⟩:=bind_some h_30
         refine aA (dY hr_38) rfl zI rfl rfl rfl rfl wa (aa (vB r_37) (ah ?_))
         obtain rfl:=ae h_30
         exact cu
      ·rintro ⟨⟩ _ sl_ H_ hp_ hq_
       refine aU _ hp_ hq_ ?_
       rcases ak hF with⟨hc_39,hF⟩|⟨hc_39,hF⟩
       ·refine aD rfl hc_39 (aj (aa (vI 1) (ah ?_)))
        obtain rfl:=ae hF
        exact aB (aM [(vI 1)] ⟨rfl,trivial⟩)
       ·refine aF rfl hc_39 (aC (aj (aL jG rfl 11 rfl wz (aK 0 0 il ft uD Bd rfl rfl (vL eS e_1.Tags) rfl wz ?_))))
        obtain ⟨r_40,hr_41,hF⟩:=bind_some hF
        refine aA (qi hr_41) rfl hb74 rfl rfl rfl rfl wz (aa (vI r_40) (ah ?_))
        obtain rfl:=ae hF
        exact aB (aM [(vI r_40)] ⟨rfl,trivial⟩)
theorem iA {l_1:(List Entry)} {r:Int} (hF:aX l_1=some r) :
  FnM Tryz.prog 23 [(vL Entry.enc l_1)] [] (vI r) []:=by
 refine FnM.of_wH ⟨Tryz.prog,35,[],[]⟩ rfl Tryz.func23 rfl rfl (lb_ rfl) (by kernel_rfl) ?_
 unfold aX at hF
 refine aj (aa (vI 0) (ah (au (aj (aa (vL Entry.enc l_1) (dE yf rfl wz (aa (vB (decide ((l_1.length:Int)>200))) (ah ?_))))))))
 rcases ak hF with⟨hc_2,hF⟩|⟨hc_2,hF⟩
 ·refine aD rfl hc_2 (aj (aa (vI 2) (ah ?_)))
  obtain rfl:=ae hF
  exact aB (aM [(vI 2)] ⟨rfl,trivial⟩)
 ·refine aF rfl hc_2 (aC (au (aj (aa (vL Entry.enc l_1) (dE yf rfl wz (aa (vI 0) (ah ?_)))))))
  obtain ⟨o_11,hj_12,hF⟩:=bind_some hF
  obtain ⟨hn_7,hj_12⟩:=bI hj_12
  refine fH (λ(s_8:Unit)=>[]) (λ(s_8:Unit)=>[]) (λ(k_3:Nat)=>(λ(s_8:Unit)=>[(0,(vL Entry.enc l_1)),(9,(vL Entry.enc l_1)),(10,(vI (l_1.length:Int))),(11,(vI (k_3:Int)))])) (λk x s=>dD l_1 k x s) o_11 l_1 () hj_12 rfl (aN rfl) ?_ ?_
  ·rintro ⟨k_3,l_4,s_8⟩ ⟨hL_10,hD_6⟩
   dsimp only at hL_10 hD_6
   cases l_4 with
   | nil =>
    obtain rfl:=ae hL_10
    refine aj (aa (vB (decide ((k_3:Int)<(l_1.length:Int)))) (ah ?_))
    refine au (aF rfl (drop_nil hD_6) (bM ?_))
    exact bG (s_8) rfl rfl (aN rfl)
   | cons x_5 l_4 =>
    obtain ⟨c_,hc_9,hL_10⟩:=bind_some hL_10
    refine aj (aa (vB (decide ((k_3:Int)<(l_1.length:Int)))) (ah ?_))
    refine au (aD rfl (bQ hD_6) (aC ?_))
    unfold dD at hc_9
    refine au (bg (aj (aa (vI (k_3:Int)) (dJ vF rfl rfl (dB hD_6) rfl wz (bD iw lN rfl (.d (.agg (Entry.enc x_5))) rfl wz (gY 0 (.inl rfl) z39 rfl wz (λn_13=>aa (vI (k_3:Int)) (gK 0 il ft 0 iw rfl rfl (Entry.v x_5) rfl wz (ah (au (aj (aK 0 0 il ft iw lN rfl rfl (.d (.agg (Entry.enc x_5))) rfl wz ?_))))))))))))
    obtain ⟨r_14,hr_15,hc_9⟩:=bind_some hc_9
    refine aA (pI hr_15) rfl hb46 rfl rfl rfl rfl wz (aa (vI r_14) (ah (aj (aa (vI r_14) (aa (vB (r_14 != 0)) (ah ?_))))))
    rcases ak hc_9 with⟨hc_16,hc_9⟩|⟨hc_16,hc_9⟩
    ·refine aD rfl hc_16 (aj (aa (vI r_14) (aa (vI r_14) (ah ?_))))
     obtain rfl:=ae hc_9
     obtain rfl:=ae hL_10
     obtain rfl:=ae hF
     exact aB (aM [(vI r_14)] ⟨rfl,trivial⟩)
    ·refine aF rfl hc_16 (aC (au ?_))
     obtain ⟨v_17,h_18,hc_9⟩:=bind_some hc_9
     refine aW [(0,(vL Entry.enc l_1)),(9,(vL Entry.enc l_1)),(10,(vI (l_1.length:Int))),(11,(vI (k_3:Int))),(33,(vB v_17))] [(n_13,some (.cells 13 (Entry.v x_5)))] ?_ ?_
     ·refine eB (aa (vI (k_3:Int)) (aa (vB (decide ((k_3:Int)>0))) ?_))
      rcases ak h_18 with⟨hc_19,h_18⟩|⟨hc_19,h_18⟩
      ·refine ay rfl hc_19 wz (aL nX rfl 0 rfl wa (aK 4 0 (.inr (by kernel_rfl)) (λ_ _ ag=>trivial) sz9 ag9 rfl rfl (vS x_5.Key) rfl wa (aG (vL Entry.enc l_1) wa rfl (aG (vI (k_3:Int)) wa rfl (aG (vI (w64 ((k_3:Int)-1))) wa rfl ?_)))))
       obtain ⟨y_20,hy_21,h_18⟩:=bind_some h_18
       refine dJ vF rfl rfl hy_21 rfl wa (h_fac nX rfl (Entry.enc y_20) rfl rfl wa (bD sz9 ag9 rfl (vS y_20.Key) rfl wa (aG (vB (sLe x_5.Key y_20.Key)) wa rfl (aa (vB (sLe x_5.Key y_20.Key)) (ah ?_)))))
       obtain rfl:=ae h_18
       exact cu
      ·refine ay rfl hc_19 wz (af (af (af (af (af (af (af (af (af (aa (vB false) (ah ?_)))))))))))
       obtain rfl:=ae h_18
       exact cu
     ·rintro ⟨⟩ _ sl_ H_ hp_ hq_
      refine aU _ hp_ hq_ ?_
      rcases ak hc_9 with⟨hc_22,hc_9⟩|⟨hc_22,hc_9⟩
      ·refine aD rfl hc_22 (aj (aa (vI 7) (ah ?_)))
       obtain rfl:=ae hc_9
       obtain rfl:=ae hL_10
       obtain rfl:=ae hF
       exact aB (aM [(vI 7)] ⟨rfl,trivial⟩)
      ·refine aF rfl hc_22 (aC (ax (gM (bZ hD_6 hn_7) wz rfl (aa (vI ((k_3+1:Nat):Int)) (ah ?_)))))
       obtain rfl:=ae hc_9
       exact bK (k_3+1,l_4,()) ⟨hL_10,bv hD_6⟩ (ls_ _) rfl (aN rfl)
  ·rintro s_8 ho_ sl_ H_ hp_ hq_
   subst ho_
   refine aU _ hp_ hq_ (aj (aa (vI 0) (ah ?_)))
   obtain rfl:=ae hF
   exact aB (aM [(vI 0)] ⟨rfl,trivial⟩)
theorem ng {l_1:(List ByteArray)} {r:ByteArray} (hF:fP l_1=some r) :
  FnM Tryz.prog 50 [(vL eS l_1)] [] (vS r) []:=by
 refine FnM.of_wH ⟨Tryz.prog,8,[],[]⟩ rfl Tryz.func50 rfl rfl (lb_ rfl) (by kernel_rfl) ?_
 unfold fP at hF
 refine aj (aa (vS (⟨#[]⟩:ByteArray)) (ah (au (aj (aa (vL eS l_1) (dE lS rfl wz (aa (vB ((l_1.length:Int)==0)) (ah ?_))))))))
 rcases ak hF with⟨hc_2,hF⟩|⟨hc_2,hF⟩
 ·refine aD rfl hc_2 (aj (aa (vS (⟨#[45]⟩:ByteArray)) (ah ?_)))
  obtain rfl:=ae hF
  exact aB (aM [(vS (⟨#[45]⟩:ByteArray))] ⟨rfl,trivial⟩)
 ·refine aF rfl hc_2 (aC (aj (aa (vL eS l_1) ?_)))
  obtain ⟨r_3,hr_4,hF⟩:=bind_some hF
  refine aA (iW hr_4) rfl Iu rfl rfl rfl rfl wz (aa (vS r_3) (ah ?_))
  obtain rfl:=ae hF
  exact aB (aM [(vS r_3)] ⟨rfl,trivial⟩)
theorem qo {e_1:Entry} {r:ByteArray} (hF:dz e_1=some r) :
  FnM Tryz.prog 25 [(.d (.agg (Entry.enc e_1)))] [] (vS r) []:=by
 refine FnM.of_wH ⟨Tryz.prog,69,[14],[]⟩ rfl Tryz.func25 rfl rfl (lb_ rfl) (by kernel_rfl) ?_
 unfold dz at hF
 refine aj (mo 0 (.inl rfl) (Entry.v e_1) rfl rfl wz (λn_2=>aa (vS (⟨#[]⟩:ByteArray)) (ah (aj (aL nX rfl 0 rfl wz (aK 0 0 il ft sz9 ag9 rfl rfl (vS e_1.Key) rfl wz (aL yU rfl 1 rfl wz (aK 0 0 il ft sz9 ag9 rfl rfl (vS e_1.Item) rfl wz (h_litv 0 (.inl rfl) (([e_1.Key,e_1.Item]:List ByteArray).map eS) fF nK rfl rfl rfl rfl rfl wz (λn_3=>aa (vV n_3 1 ([e_1.Key,e_1.Item]:List ByteArray)) (ah (au (aj (aL BQ rfl 2 rfl wz (aK 0 0 il ft sz3 ag3 rfl rfl (vI e_1.Version) rfl wz (aL ou rfl 3 rfl wz (aK 0 0 il ft sz3 ag3 rfl rfl (vI e_1.First) rfl wz (aL nH rfl 4 rfl wz (aK 0 0 il ft sz3 ag3 rfl rfl (vI e_1.Last) rfl wz (aL vN rfl 5 rfl wz (aK 0 0 il ft sz3 ag3 rfl rfl (vI e_1.Every) rfl wz (aL ww rfl 6 rfl wz (aK 0 0 il ft sz3 ag3 rfl rfl (vI e_1.Days) rfl wz ?_)))))))))))))))))))))))
 refine aL sM rfl 8 rfl wz (aK 0 0 il ft sz3 ag3 rfl rfl (vI e_1.From) rfl wz (aL vM rfl 9 rfl wz (aK 0 0 il ft sz3 ag3 rfl rfl (vI e_1.To) rfl wz (aL uV rfl 10 rfl wz (aK 0 0 il ft sz3 ag3 rfl rfl (vI e_1.Prio) rfl wz (dw (([e_1.Version,e_1.First,e_1.Last,e_1.Every,e_1.Days,e_1.From,e_1.To,e_1.Prio]:List Int).map eI) eX lq rfl rfl rfl rfl rfl wz (dE pE rfl wz (aa (vI 0) (ah ?_)))))))))
 obtain ⟨o_14,hj_15,hF⟩:=bind_some hF
 obtain ⟨hn_8,hj_15⟩:=bI hj_15
 refine iq (σ:=(List ByteArray)) (N:=Nm) (λp=>(λ(s_9:List ByteArray) (n_11:Nm)=>([(1,(.ref n_2 0 0)),(3,(vV n_11 1 s_9))]:SL_)) p.1 p.2) (λp=>(λ(s_9:List ByteArray) (n_11:Nm)=>([(n_2,some (.cells 13 (Entry.v e_1))),(n_11,some (bV 1 eS s_9))]:Hp)) p.1 p.2) (λ(k_4:Nat)=>(λp=>(λ(s_9:List ByteArray) (n_11:Nm)=>([(1,(.ref n_2 0 0)),(3,(vV n_11 1 s_9)),(31,(vL eI ([e_1.Version,e_1.First,e_1.Last,e_1.Every,e_1.Days,e_1.From,e_1.To,e_1.Prio]:List Int))),(32,(vI (([e_1.Version,e_1.First,e_1.Last,e_1.Every,e_1.Days,e_1.From,e_1.To,e_1.Prio]:List Int).length:Int))),(33,(vI (k_4:Int)))]:SL_)) p.1 p.2)) (λk x s=>gH k x s) o_14 ([e_1.Version,e_1.First,e_1.Last,e_1.Every,e_1.Days,e_1.From,e_1.To,e_1.Prio]:List Int) (([e_1.Key,e_1.Item]:List ByteArray),n_3) hj_15 rfl (aN rfl) ?_ ?_
 ·rintro ⟨k_4,l_5,s_9,n_11⟩ ⟨hL_13,hD_7⟩
  dsimp only at hL_13 hD_7
  cases l_5 with
  | nil =>
   obtain rfl:=ae hL_13
   refine aj (aa (vB (decide ((k_4:Int)<(([e_1.Version,e_1.First,e_1.Last,e_1.Every,e_1.Days,e_1.From,e_1.To,e_1.Prio]:List Int).length:Int)))) (ah ?_))
   refine au (aF rfl (drop_nil hD_7) (bM ?_))
   exact bG (s_9,n_11) rfl rfl (aN rfl)
  | cons x_6 l_5 =>
   obtain ⟨c_,hc_12,hL_13⟩:=bind_some hL_13
   refine aj (aa (vB (decide ((k_4:Int)<(([e_1.Version,e_1.First,e_1.Last,e_1.Every,e_1.Days,e_1.From,e_1.To,e_1.Prio]:List Int).length:Int)))) (ah ?_))
   refine au (aD rfl (bQ hD_7) (aC ?_))
   unfold gH at hc_12
   refine au (bg (aj (dJ eX rfl rfl (dB hD_7) rfl wz (bD sz3 ag3 rfl (vI x_6) rfl wz (aa (vI x_6) (ah (ax (aa (vV n_11 1 s_9) (aa (vI x_6) ?_)))))))))
   obtain ⟨r_16,hr_17,hc_12⟩:=bind_some hc_12
   refine aA (iY hr_17) rfl hb48 rfl rfl rfl rfl wz (dw (([r_16]:List ByteArray).map eS) fF nK rfl rfl rfl rfl rfl wz ?_)
   obtain ⟨a_18,hz_19,hc_12⟩:=bind_some hc_12
   refine Ih 0 il ft (i:=1) tY tY sz9 z9 rfl (by decide) by9 (by decide) (λ_=>rfl) rfl rfl rfl hz_19 wz (λn_20=>aa (vV n_20 1 a_18) (ah (ax (gM (bZ hD_7 hn_8) wz rfl (aa (vI ((k_4+1:Nat):Int)) (ah ?_))))))
   obtain rfl:=ae hc_12
   exact bK (k_4+1,l_5,a_18,n_20) ⟨hL_13,bv hD_7⟩ (ls_ _) rfl (aN rfl)
 ·rintro ⟨s_9,n_11⟩ ho_ sl_ H_ hp_ hq_
  subst ho_
  refine aU _ hp_ hq_ (aj (aa (vS (⟨#[111,110]⟩:ByteArray)) (ah (au (aj (aL AA rfl 12 rfl wz (aK 0 0 il ft sz4 ag4 rfl rfl (vB e_1.Gone) rfl wz (ah ?_))))))))
  obtain ⟨v_21,h_22,hF⟩:=bind_some hF
  refine aW [(1,(.ref n_2 0 0)),(3,(vV n_11 1 s_9)),(6,(vS v_21))] [(n_2,some (.cells 13 (Entry.v e_1))),(n_11,some (bV 1 eS s_9))] ?_ ?_
  ·rcases ak h_22 with⟨hc_23,h_22⟩|⟨hc_23,h_22⟩
   ·refine aD rfl hc_23 (ax (aa (vS (⟨#[103,111,110,101]⟩:ByteArray)) (ah ?_)))
    obtain rfl:=ae h_22
    exact cu
   ·refine aF rfl hc_23 (aC ?_)
    obtain rfl:=ae h_22
    exact cu
  ·rintro ⟨⟩ _ sl_ H_ hp_ hq_
   refine aU _ hp_ hq_ (aj (aa .nil (ah (au (aj (aL jv rfl 7 rfl wz (aK 0 0 il ft nY rV rfl rfl (vL eI e_1.Except) rfl wz (dE pE rfl wz (aa (vI 0) (ah (jZ (λn_30 => ?_))))))))))))
   obtain ⟨o_35,hj_36,hF⟩:=bind_some hF
   obtain ⟨hn_28,hj_36⟩:=bI hj_36
   refine iq (σ:=(List ByteArray)) (N:=Nm) (λp=>(λ(s_29:List ByteArray) (n_32:Nm)=>([(1,(.ref n_2 0 0)),(3,(vV n_11 1 s_9)),(6,(vS v_21)),(7,(gV n_32 1 s_29))]:SL_)) p.1 p.2) (λp=>(λ(s_29:List ByteArray) (n_32:Nm)=>([(n_2,some (.cells 13 (Entry.v e_1))),(n_11,some (bV 1 eS s_9)),(n_32,gB 1 eS s_29)]:Hp)) p.1 p.2) (λ(k_24:Nat)=>(λp=>(λ(s_29:List ByteArray) (n_32:Nm)=>([(1,(.ref n_2 0 0)),(3,(vV n_11 1 s_9)),(6,(vS v_21)),(7,(gV n_32 1 s_29)),(46,(vL eI e_1.Except)),(47,(vI (e_1.Except.length:Int))),(48,(vI (k_24:Int)))]:SL_)) p.1 p.2)) (λk x s=>gJ k x s) o_35 e_1.Except (([]:List ByteArray),n_30) hj_36 rfl (aN rfl) ?_ ?_
   ·rintro ⟨k_24,l_25,s_29,n_32⟩ ⟨hL_34,hD_27⟩
    dsimp only at hL_34 hD_27
    cases l_25 with
    | nil =>
     obtain rfl:=ae hL_34
     refine aj (aa (vB (decide ((k_24:Int)<(e_1.Except.length:Int)))) (ah ?_))
     refine au (aF rfl (drop_nil hD_27) (bM ?_))
     exact bG (s_29,n_32) rfl rfl (aN rfl)
    | cons x_26 l_25 =>
     obtain ⟨c_,hc_33,hL_34⟩:=bind_some hL_34
     refine aj (aa (vB (decide ((k_24:Int)<(e_1.Except.length:Int)))) (ah ?_))
     refine au (aD rfl (bQ hD_27) (aC ?_))
     unfold gJ at hc_33
     refine au (bg (aj (dJ eX rfl rfl (dB hD_27) rfl wz (bD sz3 ag3 rfl (vI x_26) rfl wz (aa (vI x_26) (ah (ax (aa (gV n_32 1 s_29) (aa (vI x_26) ?_)))))))))
     obtain ⟨r_37,hr_38,hc_33⟩:=bind_some hc_33
     refine aA (iY hr_38) rfl hb48 rfl rfl rfl rfl wz (dw (([r_37]:List ByteArray).map eS) fF nK rfl rfl rfl rfl rfl wz ?_)
     obtain ⟨a_39,hz_40,hc_33⟩:=bind_some hc_33
     refine jX 0 il ft (i:=2) tY tY sz9 z9 rfl (by decide) by9 (by decide) (λ_=>rfl) rfl rfl rfl hz_40 wz (λn_41=>aa (gV n_41 1 a_39) (ah (ax (gM (bZ hD_27 hn_28) wz rfl (aa (vI ((k_24+1:Nat):Int)) (ah ?_))))))
     obtain rfl:=ae hc_33
     exact bK (k_24+1,l_25,a_39,n_41) ⟨hL_34,bv hD_27⟩ (ls_ _) rfl (aN rfl)
   ·rintro ⟨s_29,n_32⟩ ho_ sl_ H_ hp_ hq_
    subst ho_
    refine aU _ hp_ hq_ (au (gD 2 rfl (iK 7 2 rfl rfl (eB (aa (vV n_11 1 s_9) (aa (vS v_21) (aa (vL eS s_29) ?_)))))))
    obtain ⟨r_42,hr_43,hF⟩:=bind_some hF
    refine aA (ng hr_43) rfl hb50 rfl rfl rfl rfl wz (aL jG rfl 11 rfl wz (aK 5 0 (.inr (by kernel_rfl)) (λ_ _ ag=>trivial) uD Bd rfl rfl (vL eS e_1.Tags) rfl wz ?_))
    obtain ⟨r_44,hr_45,hF⟩:=bind_some hF
    refine aA (ng hr_45) rfl hb50 rfl rfl rfl rfl wz (dw (([v_21,r_42,r_44]:List ByteArray).map eS) fF nK rfl rfl rfl rfl rfl wz ?_)
    obtain ⟨a_46,hz_47,hF⟩:=bind_some hF
    refine Ih 8 (.inr (by kernel_rfl)) (λ_ _ ag=>⟨.inr (.inr (by kernel_rfl)),trivial⟩) (i:=1) tY tY sz9 z9 rfl (by decide) by9 (by decide) (λ_=>rfl) rfl rfl rfl hz_47 wz (λn_48 => ?_)
    obtain ⟨_,hn_49,hF⟩:=bind_some hF
    replace hn_49:=neL_ne hn_49
    refine EN 1 rfl (ER hn_49).symm ?_
    obtain ⟨r_50,hr_51,hF⟩:=bind_some hF
    refine h_callv (bs:=[]) (os:=[]) 9 [] 1 0 (.inr (by kernel_rfl)) (λ_ _ ag=>by exact⟨.inr (.inr (by kernel_rfl)),⟨.inr (.inr (by kernel_rfl)),trivial⟩⟩) (FnM.unfz (args:=[(dV (av 0) 1 a_46),(vS (⟨#[32]⟩:ByteArray))]) (po:=0) (enc:=eS) (iW hr_51) rfl rfl) rfl Iu rfl rfl rfl (by kernel_rfl) rfl (.inr (.inr ⟨rfl,hn_49⟩)) rfl (by kernel_rfl) (by kernel_rfl) (by kernel_rfl) (by kernel_rfl) rfl (by decide) (by kernel_rfl) gB_ok (gB_ho rfl) wz ([(n_2,some (.cells 13 (Entry.v e_1))),(n_48,gB 1 eS a_46),(n_32,gF 1 eS s_29)]:Hp) (by kernel_rfl) ?_
    obtain ⟨s_52,hz_53,hF⟩:=bind_some hF
    refine xn rfl rfl hz_53 wz (aa (vS s_52) (ah ?_))
    obtain rfl:=ae hF
    exact aB (aM [(vS s_52)] ⟨rfl,trivial⟩)
theorem IP:oN Tryz.prog 24 56 54 9 :=
 GD Tryz.lays166 Tryz.Builder_Extra_166
theorem Hm:BldT Tryz.prog 54 9 5 :=
 ⟨by kernel_rfl,by kernel_rfl,by kernel_rfl,by kernel_rfl,by kernel_rfl,rfl⟩
theorem IR:ut Tryz.prog 26 56 :=
 lenDoes Tryz.lays170
theorem Hy:ry Tryz.prog 27 56 :=
 strDoes Tryz.lays169 Tryz.Builder_Extra_169 rfl
theorem vH {l_1:(List Entry)} {r:ByteArray×Int} (hF:fV l_1=some r) :
  FnM Tryz.prog 6 [(vL Entry.enc l_1)] [] (.tup [(vS r.1),(vI r.2)]) []:=by
 refine FnM.of_wH ⟨Tryz.prog,26,[5],[]⟩ rfl Tryz.func6 rfl rfl (lb_ rfl) (by kernel_rfl) ?_
 unfold fV at hF
 refine aj (aa (vS (⟨#[]⟩:ByteArray)) (aa (vI 0) (ah (au (aj (aa (vL Entry.enc l_1) ?_))))))
 obtain ⟨r_2,hr_3,hF⟩:=bind_some hF
 refine aA (iA hr_3) rfl hb23 rfl rfl rfl rfl wz (aa (vI r_2) (ah (aj (aa (vI r_2) (aa (vB (r_2 != 0)) (ah ?_))))))
 rcases ak hF with⟨hc_4,hF⟩|⟨hc_4,hF⟩
 ·refine aD rfl hc_4 (aj (aa (vI r_2) (aa (vS (⟨#[]⟩:ByteArray)) (aa (vI r_2) (ah ?_)))))
  obtain rfl:=ae hF
  exact aB (aM [(vS (⟨#[]⟩:ByteArray)),(vI r_2)] ⟨rfl,⟨rfl,trivial⟩⟩)
 ·refine aF rfl hc_4 (aC (aj (IE 0 (.inl rfl) z56 wz (λn_5=>vg (λn_6=>EN (b':=some (.cells (1048576+56) [.any,gV n_6 1 ([]:List Int)])) 0 rfl rfl (ah (au (aj (aa (vL Entry.enc l_1) (dE yf rfl wz (aa (vI 0) (ah ?_))))))))))))
  obtain ⟨o_17,hj_18,hF⟩:=bind_some hF
  obtain ⟨hn_11,hj_18⟩:=bI hj_18
  refine iq (σ:=(List Int)) (N:=Nm) (λp=>(λ(s_12:List Int) (n_14:Nm)=>([(5,(.ref n_5 0 0))]:SL_)) p.1 p.2) (λp=>(λ(s_12:List Int) (n_14:Nm)=>([(n_5,some (.cells (1048576+56) [.any,(gV n_14 1 s_12)])),(n_14,gB 1 (eK .u8) s_12)]:Hp)) p.1 p.2) (λ(k_7:Nat)=>(λp=>(λ(s_12:List Int) (n_14:Nm)=>([(5,(.ref n_5 0 0)),(13,(vL Entry.enc l_1)),(14,(vI (l_1.length:Int))),(15,(vI (k_7:Int)))]:SL_)) p.1 p.2)) (λk x s=>gp k x s) o_17 l_1 (([]:List Int),n_6) hj_18 rfl (aN rfl) ?_ ?_
  ·rintro ⟨k_7,l_8,s_12,n_14⟩ ⟨hL_16,hD_10⟩
   dsimp only at hL_16 hD_10
   cases l_8 with
   | nil =>
    obtain rfl:=ae hL_16
    refine aj (aa (vB (decide ((k_7:Int)<(l_1.length:Int)))) (ah ?_))
    refine au (aF rfl (drop_nil hD_10) (bM ?_))
    exact bG (s_12,n_14) rfl rfl (aN rfl)
   | cons x_9 l_8 =>
    obtain ⟨c_,hc_15,hL_16⟩:=bind_some hL_16
    refine aj (aa (vB (decide ((k_7:Int)<(l_1.length:Int)))) (ah ?_))
    refine au (aD rfl (bQ hD_10) (aC ?_))
    unfold gp at hc_15
    refine au (bg (aj (dJ vF rfl rfl (dB hD_10) rfl wz (bD iw lN rfl (.d (.agg (Entry.enc x_9))) rfl wz (gY 0 (.inl rfl) z39 rfl wz (λn_19=>gK 0 il ft 2 iw rfl rfl (Entry.v x_9) rfl wz (ah (ax (aK 0 2 il ft iw lN rfl rfl (.d (.agg (Entry.enc x_9))) rfl wz ?_)))))))))
    obtain ⟨r_20,hr_21,hc_15⟩:=bind_some hc_15
    refine aA (qo hr_21) rfl hb25 rfl rfl rfl rfl wz ?_
    obtain ⟨a_22,hz_23,hc_15⟩:=bind_some hc_15
    refine F9 0 0 1 il ft IP Hm rfl hb24 rfl rfl rfl rfl (by decide) hz_23 wz (λn_24=>ah (ax (gM (bZ hD_10 hn_11) wz rfl (aa (vI ((k_7+1:Nat):Int)) (ah ?_)))))
    obtain rfl:=ae hc_15
    exact bK (k_7+1,l_8,a_22,n_24) ⟨hL_16,bv hD_10⟩ (ls_ _) rfl (aN rfl)
  ·rintro ⟨s_12,n_14⟩ ho_ sl_ H_ hp_ hq_
   subst ho_
   refine aU _ hp_ hq_ (au (aj (h_blenL 0 0 1 il ft IR rfl hb26 rfl rfl rfl (by decide) wz (aa (vB (decide ((s_12.length:Int)>200000))) (ah ?_)))))
   rcases ak hF with⟨hc_25,hF⟩|⟨hc_25,hF⟩
   ·refine aD rfl hc_25 (aj (aa (vS (⟨#[]⟩:ByteArray)) (aa (vI 2) (ah ?_))))
    obtain rfl:=ae hF
    exact aB (aM [(vS (⟨#[]⟩:ByteArray)),(vI 2)] ⟨rfl,⟨rfl,trivial⟩⟩)
   ·refine aF rfl hc_25 (aC (aj ?_))
    obtain ⟨s_26,hz_27,hF⟩:=bind_some hF
    refine h_bstrL 0 0 1 il ft Hy rfl hb27 rfl rfl rfl (by decide) hz_27 wz (aa (vS s_26) (aa (vI 0) (ah ?_)))
    obtain rfl:=ae hF
    exact aB (aM [(vS s_26),(vI 0)] ⟨rfl,⟨rfl,trivial⟩⟩)
theorem jC {n_1:Int} {low_2:Int} {high_3:Int} {r:Bool} (hF:kI n_1 low_2 high_3=some r) :
  FnM Tryz.prog 52 [(vI n_1),(vI low_2),(vI high_3)] [] (vB r) []:=by
 refine FnM.of_wH ⟨Tryz.prog,15,[],[]⟩ rfl Tryz.func52 rfl rfl (lb_ rfl) (by kernel_rfl) ?_
 unfold kI at hF
 refine aj (aa (vB false) (ah (au ?_)))
 obtain ⟨v_4,h_5,hF⟩:=bind_some hF
 refine aW [(6,(vB v_4))] [] ?_ ?_
 ·refine ax (aa (vI low_2) (aa (vI n_1) (aa (vB (decide (low_2<=n_1))) ?_)))
  rcases ak h_5 with⟨hc_6,h_5⟩|⟨hc_6,h_5⟩
  ·refine ay rfl hc_6 wz (aG (vI n_1) wa rfl (aG (vI high_3) wa rfl (aG (vB (decide (n_1<=high_3))) wa rfl (aa (vB (decide (n_1<=high_3))) (aa (vB (decide (n_1<=high_3))) (ah ?_))))))
   obtain rfl:=ae h_5
   exact cu
  ·refine ay rfl hc_6 wz (af (af (af (aa (vB false) (aa (vB false) (ah ?_))))))
   obtain rfl:=ae h_5
   exact cu
 ·rintro ⟨⟩ _ sl_ H_ hp_ hq_
  refine aU _ hp_ hq_ ?_
  obtain rfl:=ae hF
  exact aB (aM [(vB v_4)] ⟨rfl,trivial⟩)
theorem gL {s_1:ByteArray} {c_2:Int} {r:Int} (hF:cO s_1 c_2=some r) :
  FnM Tryz.prog 88 [(vS s_1),(.d (.int .u8 c_2))] [] (vI r) []:=by
 refine FnM.of_wH ⟨Tryz.prog,8,[],[]⟩ rfl Tryz.func88 rfl rfl (lb_ rfl) (by kernel_rfl) ?_
 unfold cO at hF
 refine aj (aa (vI 0) (ah (aj (aa (vS s_1) (aa (.d (.int .u8 c_2)) (h_ext (ext_ixB (f:=102) Tryz.func102 rfl rfl (by kernel_rfl) (by kernel_rfl) _ _) rfl nb102 rfl wz (aa (vI (ixB s_1 c_2)) (ah ?_))))))))
 obtain rfl:=ae hF
 exact aB (aM [(vI (ixB s_1 c_2))] ⟨rfl,trivial⟩)
theorem qy {s_1:ByteArray} {c_2:Int} {r:Int} (hF:strings_IndexByte s_1 c_2=some r) :
  FnM Tryz.prog 95 [(vS s_1),(.d (.int .u8 c_2))] [] (vI r) []:=by
 refine FnM.of_wH ⟨Tryz.prog,8,[],[]⟩ rfl Tryz.func95 rfl rfl (lb_ rfl) (by kernel_rfl) ?_
 unfold strings_IndexByte at hF
 refine aj (aa (vI 0) (ah (aj (aa (vS s_1) (aa (.d (.int .u8 c_2)) ?_)))))
 obtain ⟨r_3,hr_4,hF⟩:=bind_some hF
 refine aA (gL hr_4) rfl hb88 rfl rfl rfl rfl wz (aa (vI r_3) (ah ?_))
 obtain rfl:=ae hF
 exact aB (aM [(vI r_3)] ⟨rfl,trivial⟩)
theorem qp {s_1:ByteArray} {somev_2:ByteArray} {r:Bool} (hF:lI s_1 somev_2=some r) :
  FnM Tryz.prog 77 [(vS s_1),(vS somev_2)] [] (vB r) []:=by
 refine FnM.of_wH ⟨Tryz.prog,18,[],[]⟩ rfl Tryz.func77 rfl rfl (lb_ rfl) (by kernel_rfl) ?_
 unfold lI at hF
 refine aj (aa (vB false) (ah (au (aj (aa (vS s_1) (jc un9 rfl wz (aa (vI 0) (ah ?_))))))))
 obtain ⟨o_11,hj_12,hF⟩:=bind_some hF
 obtain ⟨hn_7,hj_12⟩:=bI hj_12
 refine fH (λ(s_8:Unit)=>[]) (λ(s_8:Unit)=>[]) (λ(k_3:Nat)=>(λ(s_8:Unit)=>[(0,(vS s_1)),(1,(vS somev_2)),(7,(vI (s_1.size:Int))),(8,(vI (k_3:Int)))])) (λk x s=>kv s_1 somev_2 k x s) o_11 (List.range ((s_1.size:Int)).toNat) () hj_12 rfl (aN rfl) ?_ ?_
 ·rintro ⟨k_3,l_4,s_8⟩ ⟨hL_10,hD_6⟩
  dsimp only at hL_10 hD_6
  cases l_4 with
  | nil =>
   obtain rfl:=ae hL_10
   refine aj (aa (vB (decide ((k_3:Int)<(s_1.size:Int)))) (ah ?_))
   refine au (aF rfl (vG hD_6) (bM ?_))
   exact bG (s_8) rfl rfl (aN rfl)
  | cons x_5 l_4 =>
   obtain ⟨c_,hc_9,hL_10⟩:=bind_some hL_10
   refine aj (aa (vB (decide ((k_3:Int)<(s_1.size:Int)))) (ah ?_))
   refine au (aD rfl (tq hD_6) (aC ?_))
   unfold kv at hc_9
   refine au (bg (aj (aa (vI (k_3:Int)) (aa (vI (k_3:Int)) (ah (aj (aa (vS somev_2) (aa (vS s_1) (aa (vI (k_3:Int)) ?_)))))))))
   obtain ⟨b_13,hy_14,hc_9⟩:=bind_some hc_9
   refine sH un9 rfl rfl hy_14 wz ?_
   obtain ⟨r_15,hr_16,hc_9⟩:=bind_some hc_9
   refine aA (qy hr_16) rfl hb95 rfl rfl rfl rfl wz (aa (vB (decide (r_15<0))) (ah ?_))
   rcases ak hc_9 with⟨hc_17,hc_9⟩|⟨hc_17,hc_9⟩
   ·refine aD rfl hc_17 (aj (aa (vB false) (ah ?_)))
    obtain rfl:=ae hc_9
    obtain rfl:=ae hL_10
    obtain rfl:=ae hF
    exact aB (aM [(vB false)] ⟨rfl,trivial⟩)
   ·refine aF rfl hc_17 (aC (ax (gM (wF hD_6 hn_7) wz rfl (aa (vI ((k_3+1:Nat):Int)) (ah ?_)))))
    obtain rfl:=ae hc_9
    exact bK (k_3+1,l_4,()) ⟨hL_10,bv hD_6⟩ (ls_ _) rfl (aN rfl)
 ·rintro s_8 ho_ sl_ H_ hp_ hq_
  subst ho_
  refine aU _ hp_ hq_ (aj (aa (vB true) (ah ?_)))
  obtain rfl:=ae hF
  exact aB (aM [(vB true)] ⟨rfl,trivial⟩)
theorem tC {s_1:ByteArray} {r:Bool} (hF:pF s_1=some r) :
  FnM Tryz.prog 51 [(vS s_1)] [] (vB r) []:=by
 refine FnM.of_wH ⟨Tryz.prog,15,[],[]⟩ rfl Tryz.func51 rfl rfl (lb_ rfl) (by kernel_rfl) ?_
 unfold pF at hF
 refine aj (aa (vB false) (ah (au ?_)))
 obtain ⟨v_2,h_3,hF⟩:=bind_some hF
 refine aW [(2,(vB v_2))] [] ?_ ?_
 ·refine ax (aa (vS s_1) (jc un9 rfl wz ?_))
  obtain ⟨r_4,hr_5,h_3⟩:=bind_some h_3
  refine aA (jC hr_5) rfl Bq rfl rfl rfl rfl wz ?_
  rcases ak h_3 with⟨hc_6,h_3⟩|⟨hc_6,h_3⟩
  ·refine ay rfl hc_6 wz (aG (vS s_1) wa rfl ?_)
   obtain ⟨y_7,hy_8,h_3⟩:=bind_some h_3
   refine iL un9 rfl rfl hy_8 wa ?_
   obtain ⟨r_9,hr_10,h_3⟩:=bind_some h_3
   refine aA (qp hr_10) rfl hb77 rfl rfl rfl rfl wa (aa (vB r_9) ?_)
   rcases ak h_3 with⟨hc_11,h_3⟩|⟨hc_11,h_3⟩
   ·refine ay rfl hc_11 wz (aG (vS s_1) wa rfl ?_)
    obtain ⟨r_12,hr_13,h_3⟩:=bind_some h_3
    refine aA (qp hr_13) rfl hb77 rfl rfl rfl rfl wa (aa (vB r_12) (aa (vB r_12) (ah ?_)))
    obtain rfl:=ae h_3
    exact cu
   ·refine ay rfl hc_11 wz (af (af (aa (vB false) (aa (vB false) (ah ?_)))))
    obtain rfl:=ae h_3
    exact cu
  ·refine ay rfl hc_6 wz (af (af (af (aa (vB false) (aa (vB false) (af (af (aa (vB false) (aa (vB false) (ah ?_))))))))))
   obtain rfl:=ae h_3
   exact cu
 ·rintro ⟨⟩ _ sl_ H_ hp_ hq_
  refine aU _ hp_ hq_ ?_
  obtain rfl:=ae hF
  exact aB (aM [(vB v_2)] ⟨rfl,trivial⟩)
theorem tH {l_1:(List ByteArray)} {r:Int} (hF:jS l_1=some r) :
  FnM Tryz.prog 78 [(vL eS l_1)] [] (vI r) []:=by
 refine FnM.of_wH ⟨Tryz.prog,27,[],[]⟩ rfl Tryz.func78 rfl rfl (lb_ rfl) (by kernel_rfl) ?_
 unfold jS at hF
 refine aj (aa (vI 0) (ah (au (aj (aa (vL eS l_1) (dE lS rfl wz (aa (vI 0) (ah ?_))))))))
 obtain ⟨o_10,hj_11,hF⟩:=bind_some hF
 obtain ⟨hn_6,hj_11⟩:=bI hj_11
 refine fH (λ(s_7:Unit)=>[]) (λ(s_7:Unit)=>[]) (λ(k_2:Nat)=>(λ(s_7:Unit)=>[(0,(vL eS l_1)),(5,(vL eS l_1)),(6,(vI (l_1.length:Int))),(7,(vI (k_2:Int)))])) (λk x s=>iQ l_1 k x s) o_10 l_1 () hj_11 rfl (aN rfl) ?_ ?_
 ·rintro ⟨k_2,l_3,s_7⟩ ⟨hL_9,hD_5⟩
  dsimp only at hL_9 hD_5
  cases l_3 with
  | nil =>
   obtain rfl:=ae hL_9
   refine aj (aa (vB (decide ((k_2:Int)<(l_1.length:Int)))) (ah ?_))
   refine au (aF rfl (drop_nil hD_5) (bM ?_))
   exact bG (s_7) rfl rfl (aN rfl)
  | cons x_4 l_3 =>
   obtain ⟨c_,hc_8,hL_9⟩:=bind_some hL_9
   refine aj (aa (vB (decide ((k_2:Int)<(l_1.length:Int)))) (ah ?_))
   refine au (aD rfl (bQ hD_5) (aC ?_))
   unfold iQ at hc_8
   refine au (bg (aj (aa (vI (k_2:Int)) (dJ fF rfl rfl (dB hD_5) rfl wz (bD sz9 ag9 rfl (vS x_4) rfl wz (aa (vI (k_2:Int)) (aa (vS x_4) (ah (au (aj (aa (vS x_4) ?_)))))))))))
   obtain ⟨r_12,hr_13,hc_8⟩:=bind_some hc_8
   refine aA (tC hr_13) rfl hb51 rfl rfl rfl rfl wz (aa (vB (!r_12)) (ah ?_))
   rcases ak hc_8 with⟨hc_14,hc_8⟩|⟨hc_14,hc_8⟩
   ·refine aD rfl hc_14 (aj (aa (vI 5) (ah ?_)))
    obtain rfl:=ae hc_8
    obtain rfl:=ae hL_9
    obtain rfl:=ae hF
    exact aB (aM [(vI 5)] ⟨rfl,trivial⟩)
   ·refine aF rfl hc_14 (aC (au ?_))
    obtain ⟨v_15,h_16,hc_8⟩:=bind_some hc_8
    refine aW [(0,(vL eS l_1)),(5,(vL eS l_1)),(6,(vI (l_1.length:Int))),(7,(vI (k_2:Int))),(25,(vB v_15))] [] ?_ ?_
    ·refine ax (aa (vI (k_2:Int)) (aa (vB (decide ((k_2:Int)>0))) ?_))
     rcases ak h_16 with⟨hc_17,h_16⟩|⟨hc_17,h_16⟩
     ·refine ay rfl hc_17 wz (aG (vS x_4) wa rfl (aG (vL eS l_1) wa rfl (aG (vI (k_2:Int)) wa rfl (aG (vI (w64 ((k_2:Int)-1))) wa rfl ?_))))
      obtain ⟨y_18,hy_19,h_16⟩:=bind_some h_16
      refine dJ fF rfl rfl hy_19 rfl wa (bD sz9 ag9 rfl (vS y_18) rfl wa (aG (vB (sLe x_4 y_18)) wa rfl (aa (vB (sLe x_4 y_18)) (ah ?_))))
      obtain rfl:=ae h_16
      exact cu
     ·refine ay rfl hc_17 wz (af (af (af (af (af (af (af (aa (vB false) (ah ?_)))))))))
      obtain rfl:=ae h_16
      exact cu
    ·rintro ⟨⟩ _ sl_ H_ hp_ hq_
     refine aU _ hp_ hq_ ?_
     rcases ak hc_8 with⟨hc_20,hc_8⟩|⟨hc_20,hc_8⟩
     ·refine aD rfl hc_20 (aj (aa (vI 7) (ah ?_)))
      obtain rfl:=ae hc_8
      obtain rfl:=ae hL_9
      obtain rfl:=ae hF
      exact aB (aM [(vI 7)] ⟨rfl,trivial⟩)
     ·refine aF rfl hc_20 (aC (ax (gM (bZ hD_5 hn_6) wz rfl (aa (vI ((k_2+1:Nat):Int)) (ah ?_)))))
      obtain rfl:=ae hc_8
      exact bK (k_2+1,l_3,()) ⟨hL_9,bv hD_5⟩ (ls_ _) rfl (aN rfl)
 ·rintro s_7 ho_ sl_ H_ hp_ hq_
  subst ho_
  refine aU _ hp_ hq_ (aj (aa (vI 0) (ah ?_)))
  obtain rfl:=ae hF
  exact aB (aM [(vI 0)] ⟨rfl,trivial⟩)
theorem wJ {l_1:(List ByteArray)} {r:Int} (hF:jN l_1=some r) :
  FnM Tryz.prog 53 [(vL eS l_1)] [] (vI r) []:=by
 refine FnM.of_wH ⟨Tryz.prog,8,[],[]⟩ rfl Tryz.func53 rfl rfl (lb_ rfl) (by kernel_rfl) ?_
 unfold jN at hF
 refine aj (aa (vI 0) (ah (au (aj (aa (vL eS l_1) (dE lS rfl wz (aa (vB (decide ((l_1.length:Int)>20))) (ah ?_))))))))
 rcases ak hF with⟨hc_2,hF⟩|⟨hc_2,hF⟩
 ·refine aD rfl hc_2 (aj (aa (vI 2) (ah ?_)))
  obtain rfl:=ae hF
  exact aB (aM [(vI 2)] ⟨rfl,trivial⟩)
 ·refine aF rfl hc_2 (aC (aj (aa (vL eS l_1) ?_)))
  obtain ⟨r_3,hr_4,hF⟩:=bind_some hF
  refine aA (tH hr_4) rfl hb78 rfl rfl rfl rfl wz (aa (vI r_3) (ah ?_))
  obtain rfl:=ae hF
  exact aB (aM [(vI r_3)] ⟨rfl,trivial⟩)
theorem uB {e_1:Entry} {r:Int} (hF:jw e_1=some r) :
  FnM Tryz.prog 28 [(.d (.agg (Entry.enc e_1)))] [] (vI r) []:=by
 refine FnM.of_wH ⟨Tryz.prog,94,[],[]⟩ rfl Tryz.func28 rfl rfl (lb_ rfl) (by kernel_rfl) ?_
 unfold jw at hF
 refine aj (mo 0 (.inl rfl) (Entry.v e_1) rfl rfl wz (λn_2=>aa (vI 0) (ah (au (bg (au ?_))))))
 obtain ⟨v_3,h_4,hF⟩:=bind_some hF
 refine aW [(1,(.ref n_2 0 0)),(5,(vB v_3))] [(n_2,some (.cells 13 (Entry.v e_1)))] ?_ ?_
 ·refine ax (aL nX rfl 0 rfl wz (aK 0 0 il ft sz9 ag9 rfl rfl (vS e_1.Key) rfl wz ?_))
  obtain ⟨r_5,hr_6,h_4⟩:=bind_some h_4
  refine aA (tC hr_6) rfl hb51 rfl rfl rfl rfl wz (aa (vB (!r_5)) ?_)
  rcases ak h_4 with⟨hc_7,h_4⟩|⟨hc_7,h_4⟩
  ·refine ay rfl hc_7 wz (af (af (af (af (aa (vB true) (aa (vB true) (ah ?_)))))))
   obtain rfl:=ae h_4
   exact cu
  ·refine ay rfl hc_7 wz (aL yU rfl 1 rfl wa (aK 0 0 il ft sz9 ag9 rfl rfl (vS e_1.Item) rfl wa ?_))
   obtain ⟨r_8,hr_9,h_4⟩:=bind_some h_4
   refine aA (tC hr_9) rfl hb51 rfl rfl rfl rfl wa (aG (vB (!r_8)) wa rfl (aa (vB (!r_8)) (aa (vB (!r_8)) (ah ?_))))
   obtain rfl:=ae h_4
   exact cu
 ·rintro ⟨⟩ _ sl_ H_ hp_ hq_
  refine aU _ hp_ hq_ ?_
  rcases ak hF with⟨hc_10,hF⟩|⟨hc_10,hF⟩
  ·refine aD rfl hc_10 (aj (aa (vI 5) (ah ?_)))
   obtain rfl:=ae hF
   exact aB (aM [(vI 5)] ⟨rfl,trivial⟩)
  ·refine aF rfl hc_10 (au ?_)
   obtain ⟨v_11,h_12,hF⟩:=bind_some hF
   refine aW [(1,(.ref n_2 0 0)),(16,(vB v_11))] [(n_2,some (.cells 13 (Entry.v e_1)))] ?_ ?_
   ·refine ax (aL BQ rfl 2 rfl wz (aK 0 0 il ft sz3 ag3 rfl rfl (vI e_1.Version) rfl wz ?_))
    obtain ⟨r_13,hr_14,h_12⟩:=bind_some h_12
    refine aA (jC hr_14) rfl Bq rfl rfl rfl rfl wz (aa (vB (!r_13)) ?_)
    rcases ak h_12 with⟨hc_15,h_12⟩|⟨hc_15,h_12⟩
    ·refine ay rfl hc_15 wz (af (af (af (af (af (af (aa (vB true) (aa (vB true) (af (af (af (aa (vB true) (aa (vB true) (af (af (af (af (aa (vB true) (aa (vB true) (af (af (af (af ?_)))))))))))))))))))))))
     refine aa (vB true) (aa (vB true) (ah ?_))
     obtain rfl:=ae h_12
     exact cu
    ·refine ay rfl hc_15 wz (aL ou rfl 3 rfl wa (aK 0 0 il ft sz3 ag3 rfl rfl (vI e_1.First) rfl wa (aL nH rfl 4 rfl wa (aK 0 0 il ft sz3 ag3 rfl rfl (vI e_1.Last) rfl wa ?_))))
     obtain ⟨r_16,hr_17,h_12⟩:=bind_some h_12
     refine aA (jC hr_17) rfl Bq rfl rfl rfl rfl wa (aG (vB (!r_16)) wa rfl (aa (vB (!r_16)) ?_))
     rcases ak h_12 with⟨hc_18,h_12⟩|⟨hc_18,h_12⟩
     ·refine ay rfl hc_18 wz (af (af (af (aa (vB true) (aa (vB true) (af (af (af (af (aa (vB true) (aa (vB true) (af (af (af (af (aa (vB true) (aa (vB true) (ah ?_))))))))))))))))))
      obtain rfl:=ae h_12
      exact cu
     ·refine ay rfl hc_18 wz (aL nH rfl 4 rfl wa (aK 0 0 il ft sz3 ag3 rfl rfl (vI e_1.Last) rfl wa (aG (vB (decide (e_1.Last>4000))) wa rfl (aa (vB (decide (e_1.Last>4000))) ?_))))
      rcases ak h_12 with⟨hc_19,h_12⟩|⟨hc_19,h_12⟩
      ·refine ay rfl hc_19 wz (af (af (af (af (aa (vB true) (aa (vB true) (af (af (af (af (aa (vB true) (aa (vB true) (ah ?_)))))))))))))
       obtain rfl:=ae h_12
       exact cu
      ·refine ay rfl hc_19 wz (aL vN rfl 5 rfl wa (aK 0 0 il ft sz3 ag3 rfl rfl (vI e_1.Every) rfl wa ?_))
       obtain ⟨r_20,hr_21,h_12⟩:=bind_some h_12
       refine aA (jC hr_21) rfl Bq rfl rfl rfl rfl wa (aG (vB (!r_20)) wa rfl (aa (vB (!r_20)) ?_))
       rcases ak h_12 with⟨hc_22,h_12⟩|⟨hc_22,h_12⟩
       ·refine ay rfl hc_22 wz (af (af (af (af (aa (vB true) (aa (vB true) (ah ?_)))))))
        obtain rfl:=ae h_12
        exact cu
       ·refine ay rfl hc_22 wz (aL ww rfl 6 rfl wa (aK 0 0 il ft sz3 ag3 rfl rfl (vI e_1.Days) rfl wa ?_))
        obtain ⟨r_23,hr_24,h_12⟩:=bind_some h_12
        refine aA (jC hr_24) rfl Bq rfl rfl rfl rfl wa (aG (vB (!r_23)) wa rfl (aa (vB (!r_23)) (aa (vB (!r_23)) (ah ?_))))
        obtain rfl:=ae h_12
        exact cu
   ·rintro ⟨⟩ _ sl_ H_ hp_ hq_
    refine aU _ hp_ hq_ ?_
    rcases ak hF with⟨hc_25,hF⟩|⟨hc_25,hF⟩
    ·refine aD rfl hc_25 (aj (aa (vI 1) (ah ?_)))
     obtain rfl:=ae hF
     exact aB (aM [(vI 1)] ⟨rfl,trivial⟩)
    ·refine aF rfl hc_25 (aj (aL jv rfl 7 rfl wz (aK 0 0 il ft nY rV rfl rfl (vL eI e_1.Except) rfl wz (dE pE rfl wz (aa (vB (decide ((e_1.Except.length:Int)>100))) (aa (vB (decide ((e_1.Except.length:Int)>100))) (ah ?_)))))))
     rcases ak hF with⟨hc_26,hF⟩|⟨hc_26,hF⟩
     ·refine aD rfl hc_26 (aj (aa (vI 2) (ah ?_)))
      obtain rfl:=ae hF
      exact aB (aM [(vI 2)] ⟨rfl,trivial⟩)
     ·refine aF rfl hc_26 (aC (au (aj (aL jv rfl 7 rfl wz (aK 0 0 il ft nY rV rfl rfl (vL eI e_1.Except) rfl wz (dE pE rfl wz (aa (vI 0) (ah ?_))))))))
      obtain ⟨o_35,hj_36,hF⟩:=bind_some hF
      obtain ⟨hn_31,hj_36⟩:=bI hj_36
      refine fH (λ(s_32:Unit)=>[(1,(.ref n_2 0 0))]) (λ(s_32:Unit)=>[(n_2,some (.cells 13 (Entry.v e_1)))]) (λ(k_27:Nat)=>(λ(s_32:Unit)=>[(1,(.ref n_2 0 0)),(52,(vL eI e_1.Except)),(53,(vI (e_1.Except.length:Int))),(54,(vI (k_27:Int)))])) (λk x s=>je e_1 k x s) o_35 e_1.Except () hj_36 rfl (aN rfl) ?_ ?_
      ·rintro ⟨k_27,l_28,s_32⟩ ⟨hL_34,hD_30⟩
       dsimp only at hL_34 hD_30
       cases l_28 with
       | nil =>
        obtain rfl:=ae hL_34
        refine aj (aa (vB (decide ((k_27:Int)<(e_1.Except.length:Int)))) (ah ?_))
        refine au (aF rfl (drop_nil hD_30) (bM ?_))
        exact bG (s_32) rfl rfl (aN rfl)
       | cons x_29 l_28 =>
        obtain ⟨c_,hc_33,hL_34⟩:=bind_some hL_34
        refine aj (aa (vB (decide ((k_27:Int)<(e_1.Except.length:Int)))) (ah ?_))
        refine au (aD rfl (bQ hD_30) (aC ?_))
        unfold je at hc_33
        refine au (bg (aj (aa (vI (k_27:Int)) (dJ eX rfl rfl (dB hD_30) rfl wz (bD sz3 ag3 rfl (vI x_29) rfl wz (aa (vI (k_27:Int)) (aa (vI x_29) (ah (au (aj (aa (vI x_29) ?_)))))))))))
        obtain ⟨r_37,hr_38,hc_33⟩:=bind_some hc_33
        refine aA (jC hr_38) rfl Bq rfl rfl rfl rfl wz (aa (vB (!r_37)) (ah ?_))
        rcases ak hc_33 with⟨hc_39,hc_33⟩|⟨hc_39,hc_33⟩
        ·refine aD rfl hc_39 (aj (aa (vI 1) (ah ?_)))
         obtain rfl:=ae hc_33
         obtain rfl:=ae hL_34
         obtain rfl:=ae hF
         exact aB (aM [(vI 1)] ⟨rfl,trivial⟩)
        ·refine aF rfl hc_39 (aC (au ?_))
         obtain ⟨v_40,h_41,hc_33⟩:=bind_some hc_33
         refine aW [(1,(.ref n_2 0 0)),(52,(vL eI e_1.Except)),(53,(vI (e_1.Except.length:Int))),(54,(vI (k_27:Int))),(73,(vB v_40))] [(n_2,some (.cells 13 (Entry.v e_1)))] ?_ ?_
         ·refine ax (aa (vI (k_27:Int)) (aa (vB (decide ((k_27:Int)>0))) ?_))
          rcases ak h_41 with⟨hc_42,h_41⟩|⟨hc_42,h_41⟩
          ·refine ay rfl hc_42 wz (aG (vI x_29) wa rfl (aL jv rfl 7 rfl wa (aK 0 0 il ft nY rV rfl rfl (vL eI e_1.Except) rfl wa (aG (vI (k_27:Int)) wa rfl (aG (vI (w64 ((k_27:Int)-1))) wa rfl ?_)))))
           obtain ⟨y_43,hy_44,h_41⟩:=bind_some h_41
           refine dJ eX rfl rfl hy_44 rfl wa (bD sz3 ag3 rfl (vI y_43) rfl wa (aG (vB (decide (x_29<=y_43))) wa rfl (aa (vB (decide (x_29<=y_43))) (ah ?_))))
           obtain rfl:=ae h_41
           exact cu
          ·refine ay rfl hc_42 wz (af (af (af (af (af (af (af (af (aa (vB false) (ah ?_))))))))))
           obtain rfl:=ae h_41
           exact cu
         ·rintro ⟨⟩ _ sl_ H_ hp_ hq_
          refine aU _ hp_ hq_ ?_
          rcases ak hc_33 with⟨hc_45,hc_33⟩|⟨hc_45,hc_33⟩
          ·refine aD rfl hc_45 (aj (aa (vI 7) (ah ?_)))
           obtain rfl:=ae hc_33
           obtain rfl:=ae hL_34
           obtain rfl:=ae hF
           exact aB (aM [(vI 7)] ⟨rfl,trivial⟩)
          ·refine aF rfl hc_45 (aC (ax (gM (bZ hD_30 hn_31) wz rfl (aa (vI ((k_27+1:Nat):Int)) (ah ?_)))))
           obtain rfl:=ae hc_33
           exact bK (k_27+1,l_28,()) ⟨hL_34,bv hD_30⟩ (ls_ _) rfl (aN rfl)
      ·rintro s_32 ho_ sl_ H_ hp_ hq_
       subst ho_
       refine aU _ hp_ hq_ (au (au ?_))
       obtain ⟨v_46,h_47,hF⟩:=bind_some hF
       refine aW [(1,(.ref n_2 0 0)),(90,(vB v_46))] [(n_2,some (.cells 13 (Entry.v e_1)))] ?_ ?_
       ·refine ax (aL sM rfl 8 rfl wz (aK 0 0 il ft sz3 ag3 rfl rfl (vI e_1.From) rfl wz ?_))
        obtain ⟨r_48,hr_49,h_47⟩:=bind_some h_47
        refine aA (jC hr_49) rfl Bq rfl rfl rfl rfl wz (aa (vB (!r_48)) ?_)
        rcases ak h_47 with⟨hc_50,h_47⟩|⟨hc_50,h_47⟩
        ·refine ay rfl hc_50 wz (af (af (af (af (aa (vB true) (aa (vB true) (af (af (af (af (aa (vB true) (ah ?_))))))))))))
         obtain rfl:=ae h_47
         exact cu
        ·refine ay rfl hc_50 wz (aL vM rfl 9 rfl wa (aK 0 0 il ft sz3 ag3 rfl rfl (vI e_1.To) rfl wa ?_))
         obtain ⟨r_51,hr_52,h_47⟩:=bind_some h_47
         refine aA (jC hr_52) rfl Bq rfl rfl rfl rfl wa (aG (vB (!r_51)) wa rfl (aa (vB (!r_51)) ?_))
         rcases ak h_47 with⟨hc_53,h_47⟩|⟨hc_53,h_47⟩
         ·refine ay rfl hc_53 wz (af (af (af (af (aa (vB true) (ah ?_))))))
          obtain rfl:=ae h_47
          exact cu
         ·refine ay rfl hc_53 wz (aL uV rfl 10 rfl wa (aK 0 0 il ft sz3 ag3 rfl rfl (vI e_1.Prio) rfl wa ?_))
          obtain ⟨r_54,hr_55,h_47⟩:=bind_some h_47
          refine aA (jC hr_55) rfl Bq rfl rfl rfl rfl wa (aG (vB (!r_54)) wa rfl (aa (vB (!r_54)) (ah ?_)))
          obtain rfl:=ae h_47
          exact cu
       ·rintro ⟨⟩ _ sl_ H_ hp_ hq_
        refine aU _ hp_ hq_ ?_
        rcases ak hF with⟨hc_56,hF⟩|⟨hc_56,hF⟩
        ·refine aD rfl hc_56 (aj (aa (vI 1) (ah ?_)))
         obtain rfl:=ae hF
         exact aB (aM [(vI 1)] ⟨rfl,trivial⟩)
        ·refine aF rfl hc_56 (aC (aj (aL jG rfl 11 rfl wz (aK 0 0 il ft uD Bd rfl rfl (vL eS e_1.Tags) rfl wz ?_))))
         obtain ⟨r_57,hr_58,hF⟩:=bind_some hF
         refine aA (wJ hr_58) rfl hb53 rfl rfl rfl rfl wz (aa (vI r_57) (ah ?_))
         obtain rfl:=ae hF
         exact aB (aM [(vI r_57)] ⟨rfl,trivial⟩)
end Go.Proofs.YtigdobmllbakiabGreatDoor.Law

