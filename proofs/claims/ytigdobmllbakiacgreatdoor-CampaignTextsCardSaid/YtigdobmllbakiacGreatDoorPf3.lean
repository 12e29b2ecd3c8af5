/-
 The machine computes these plain functions (written by a program of ours).
-/
import Derived.Test.YtigdobmllbakiacGreatDoorFacts
import Derived.Test.YtigdobmllbakiacGreatDoorDefs
import Derived.Test.YtigdobmllbakiacGreatDoorPf2
open Go Go.Eng Go.Proofs
namespace Go.Proofs.YtigdobmllbakiacGreatDoor.Law
set_option maxRecDepth 100000
set_option linter.unusedVariables false
set_option maxHeartbeats 1000000
theorem mY {line_1:ByteArray} {p_2:(List Campaign)} {r:Bool×(List Campaign)} (hF:dS line_1 p_2=some r) :
  FnM Tryz.prog 34 [(vS line_1),(.ref (ak 0) 0 0)] (([.cells 1 [gV (ak 1) 8 p_2]]:List Box)++gI 8 Campaign.enc p_2) (vB r.1) (([some (.cells 1 [gV (ak (1+(gI 8 Campaign.enc p_2).length)) 8 r.2])]:List (Option Box))++gT p_2 none++gO 8 Campaign.enc r.2):=by
 refine FnM.of_wHc1 ⟨Tryz.prog,72,[],[]⟩ rfl Tryz.func34 rfl rfl (lb_ rfl) (by kernel_rfl) ?_
 unfold dS at hF
 refine ai (aa (vB false) (af (ai (aa (vS line_1) ?_))))
 obtain ⟨r_3,hr_4,hF⟩:=bind_some hF
 refine Eh [.bool r_3.2] [] (xu hr_4) rfl hb35 rfl (by kernel_rfl) (by kernel_rfl) (by kernel_rfl) (by kernel_rfl) (by kernel_rfl) rfl (by decide) (by kernel_rfl) wz ([((ak 0),some (.cells 1 [(gV (ak 1) 8 p_2)])),((ak 1),gB 8 Campaign.enc p_2)]:Hp) (λ_=>by kernel_rfl) (λn_6=>aa (.tup [(gV n_6 1 r_3.1),(vB r_3.2)]) (aa (gV n_6 1 r_3.1) (aa (vB r_3.2) (aa (gV n_6 1 r_3.1) (aa (vB r_3.2) (af (au (au ?_))))))))
 obtain ⟨v_7,h_8,hF⟩:=bind_some hF
 refine bg [(1,(.ref (ak 0) 0 0)),(4,(gV n_6 1 r_3.1)),(21,(vB v_7))] [((ak 0),some (.cells 1 [(gV (ak 1) 8 p_2)])),((ak 1),gB 8 Campaign.enc p_2),(n_6,gB 1 eS r_3.1)] ?_ ?_
 ·refine av (aa (vB r_3.2) (aa (vB (!r_3.2)) ?_))
  rcases aj h_8 with⟨hc_9,h_8⟩|⟨hc_9,h_8⟩
  ·refine ay rfl hc_9 wz (ah (ah (ah (aa (vB true) (af ?_)))))
   obtain rfl:=ae h_8
   exact cu
  ·refine ay rfl hc_9 wz (aG (gV n_6 1 r_3.1) wa rfl (Be lw rfl wa (aG (vB ((r_3.1.length:Int) != 8)) wa rfl (aa (vB ((r_3.1.length:Int) != 8)) (af ?_)))))
   obtain rfl:=ae h_8
   exact cu
 ·rintro ⟨⟩ _ sl_ H_ hp_ hq_
  refine bu _ hp_ hq_ ?_
  rcases aj hF with⟨hc_10,hF⟩|⟨hc_10,hF⟩
  ·refine aJ rfl hc_10 (ai (aa (vB false) (af ?_)))
   obtain rfl:=ae hF
   exact aA (zq (n:=(ak 1)) (.inr rfl) [(vB false)] ⟨rfl,trivial⟩ rfl rfl rfl rfl 1 rfl rfl)
  ·refine aI rfl hc_10 (aF (ai (aa (gV n_6 1 r_3.1) ?_)))
   obtain ⟨_,hn_11,hF⟩:=bind_some hF
   replace hn_11:=neL_ne hn_11
   refine jr (v':=(vV n_6 1 r_3.1)) 23 rfl (vV_gV hn_11).symm (jr (v':=(vV n_6 1 r_3.1)) 4 rfl (vV_gV hn_11).symm (Cx 2 rfl (CL hn_11) ?_))
   obtain ⟨_,hr_12,hF⟩:=bind_some hF
   refine Fg lw sz9 rfl rfl rfl hr_12 wz ?_
   obtain ⟨r_13,hr_14,hF⟩:=bind_some hF
   refine Fw (xs:=r_3.1) (args0:=[(.vs (ak 0) 1 ((2:Int).toNat) ((7:Int).toNat-(2:Int).toNat)),(vI 15)]) 0 2 0 ((2:Int).toNat) ((7:Int).toNat-(2:Int).toNat) il ft (rY hr_14) (subR_le hr_12) (intV_lb _ _) (by kernel_rfl) rfl hb36 rfl rfl rfl (by kernel_rfl) (by kernel_rfl) (by kernel_rfl) wz (aa (.tup [(vL eI r_13.1),(vB r_13.2)]) (aa (vL eI r_13.1) (aa (vB r_13.2) (aa (vL eI r_13.1) (aa (vB r_13.2) (af (ai (aa (vV n_6 1 r_3.1) ?_))))))))
   obtain ⟨_,hi_15,hF⟩:=bind_some hF
   refine yj fV rfl rfl (oz hi_15) (lS hi_15) wz ?_
   obtain ⟨e_16,hy_17,hF⟩:=bind_some hF
   refine zK 0 2 il ft sz9 ag9 rfl rfl hy_17 (vS e_16) rfl wz ?_
   obtain ⟨r_18,hr_19,hF⟩:=bind_some hF
   refine aD (uw hr_19) rfl hb37 rfl rfl rfl rfl wz (aa (.tup [(vL eS r_18.1),(vB r_18.2)]) (aa (vL eS r_18.1) (aa (vB r_18.2) (aa (vL eS r_18.1) (aa (vB r_18.2) (af (au (ai (aa (vV n_6 1 r_3.1) ?_)))))))))
   obtain ⟨_,hi_20,hF⟩:=bind_some hF
   refine yj fV rfl rfl (oz hi_20) (lS hi_20) wz ?_
   obtain ⟨e_21,hy_22,hF⟩:=bind_some hF
   refine zK 0 2 il ft sz9 ag9 rfl rfl hy_22 (vS e_21) rfl wz (aa (vB (sEq e_21 (⟨#[45]⟩:ByteArray))) (af ?_))
   obtain ⟨v_23,h_24,hF⟩:=bind_some hF
   refine bg [(1,(.ref (ak 0) 0 0)),(4,(vV n_6 1 v_23)),(6,(vL eI r_13.1)),(7,(vB r_13.2)),(8,(vL eS r_18.1)),(9,(vB r_18.2))] [((ak 0),some (.cells 1 [(gV (ak 1) 8 p_2)])),((ak 1),gB 8 Campaign.enc p_2),(n_6,some (bV 1 eS v_23))] ?_ ?_
   ·rcases aj h_24 with⟨hc_25,h_24⟩|⟨hc_25,h_24⟩
    ·refine aJ rfl hc_25 (av (aa (vV n_6 1 r_3.1) ?_))
     obtain ⟨_,hi_26,h_24⟩:=bind_some h_24
     refine yj fV rfl rfl (oz hi_26) (lS hi_26) wz ?_
     obtain ⟨e_27,hy_28,h_24⟩:=bind_some h_24
     refine h_stv 0 il ft 2 sz9 rfl rfl hy_28 (⟨#[]⟩:ByteArray) rfl wz (jr (v':=(vV n_6 1 (r_3.1.set (0+(1:Int).toNat) (⟨#[]⟩:ByteArray)))) 4 rfl (vk (by simp)) (jr (v':=(vV n_6 1 (r_3.1.set (0+(1:Int).toNat) (⟨#[]⟩:ByteArray)))) 23 rfl (vk (by simp)) (jr (v':=(vV n_6 1 (r_3.1.set (0+(1:Int).toNat) (⟨#[]⟩:ByteArray)))) 29 rfl (vk (by simp)) (jr (v':=(vV n_6 1 (r_3.1.set (0+(1:Int).toNat) (⟨#[]⟩:ByteArray)))) 35 rfl (vk (by simp)) (jr (v':=(vV n_6 1 (r_3.1.set (0+(1:Int).toNat) (⟨#[]⟩:ByteArray)))) 39 rfl (vk (by simp)) (af ?_))))))
     obtain rfl:=ae h_24
     exact cu
    ·refine aI rfl hc_25 (aF ?_)
     obtain rfl:=ae h_24
     exact cu
   ·rintro ⟨⟩ _ sl_ H_ hp_ hq_
    refine bu _ hp_ hq_ (au (fD (aY 0 0 (.inr (by kernel_rfl)) (λ_ _ ag=>trivial) sz26 ag26 rfl rfl (gV (ak 1) 8 p_2) rfl wz (aa (vV n_6 1 v_23) ?_))))
    obtain ⟨_,hi_29,hF⟩:=bind_some hF
    refine yj fV rfl rfl (oz hi_29) (lS hi_29) wz ?_
    obtain ⟨e_30,hy_31,hF⟩:=bind_some hF
    refine zK 3 2 (.inr (by kernel_rfl)) (λ_ _ ag=>⟨.inl ⟨rfl,rfl⟩,trivial⟩) sz9 ag9 rfl rfl hy_31 (vS e_30) rfl wz (aa (vV n_6 1 v_23) ?_)
    obtain ⟨_,hi_32,hF⟩:=bind_some hF
    refine yj fV rfl rfl (oz hi_32) (lS hi_32) wz ?_
    obtain ⟨e_33,hy_34,hF⟩:=bind_some hF
    refine zK 6 2 (.inr (by kernel_rfl)) (λ_ _ ag=>⟨.inl ⟨rfl,rfl⟩,⟨.inl ⟨rfl,rfl⟩,trivial⟩⟩) sz9 ag9 rfl rfl hy_34 (vS e_33) rfl wz (aa (vL eI r_13.1) ?_)
    obtain ⟨y_35,hy_36,hF⟩:=bind_some hF
    refine gL je rfl rfl hy_36 rfl wz (dY sz3 ag3 rfl (vI y_35) rfl wz (aa (vL eI r_13.1) ?_))
    obtain ⟨y_37,hy_38,hF⟩:=bind_some hF
    refine gL je rfl rfl hy_38 rfl wz (dY sz3 ag3 rfl (vI y_37) rfl wz (aG (.d (.agg (Window.enc (⟨y_35,y_37⟩:Window)))) wz (by kernel_rfl) (aa (vL eI r_13.1) ?_)))
    obtain ⟨y_39,hy_40,hF⟩:=bind_some hF
    refine gL je rfl rfl hy_40 rfl wz (dY sz3 ag3 rfl (vI y_39) rfl wz (aa (vL eI r_13.1) ?_))
    obtain ⟨y_41,hy_42,hF⟩:=bind_some hF
    refine gL je rfl rfl hy_42 rfl wz (dY sz3 ag3 rfl (vI y_41) rfl wz (aa (vL eI r_13.1) ?_))
    obtain ⟨y_43,hy_44,hF⟩:=bind_some hF
    refine gL je rfl rfl hy_44 rfl wz (dY sz3 ag3 rfl (vI y_43) rfl wz (aa (vL eS r_18.1) (aG (.d (.agg (Campaign.enc (⟨e_30,e_33,(⟨y_35,y_37⟩:Window),r_18.1,y_39,y_41,y_43⟩:Campaign)))) wz (by kernel_rfl) (dU (([(⟨e_30,e_33,(⟨y_35,y_37⟩:Window),r_18.1,y_39,y_41,y_43⟩:Campaign)]:List Campaign).map Campaign.enc) sF Eb rfl rfl rfl rfl rfl wz ?_))))
    obtain ⟨a_45,hz_46,hF⟩:=bind_some hF
    refine nE 26 (.inr (by kernel_rfl)) (λ_ _ ag=>⟨.inr (.inr (by kernel_rfl)),⟨.inr (.inr (by kernel_rfl)),⟨.inr (.inr (by kernel_rfl)),trivial⟩⟩⟩) (i:=1) zI zI gD z41 rfl (by decide) by41 (by decide) (λ_=>rfl) rfl rfl rfl hz_46 wz (λn_47=>ji 27 (.inr (by kernel_rfl)) (λ_ _ ag=>⟨.inr (.inr (by kernel_rfl)),⟨.inr (.inr (by kernel_rfl)),⟨.inr (.inr (by kernel_rfl)),⟨.inr (.inr (by kernel_rfl)),trivial⟩⟩⟩⟩) 0 sz26 rfl rfl [(gV n_47 8 a_45)] (Ec rfl) wz (af (au ?_)))
    obtain ⟨v_48,h_49,hF⟩:=bind_some hF
    refine jS (β:=Nm) (λ(n_50:Nm)=>([(3,(vB v_48))]:SL_)) (λ(n_50:Nm)=>([((ak 0),some (.cells 1 [(gV n_50 8 a_45)])),(n_50,gB 8 Campaign.enc a_45),(n_6,some (bV 1 eS v_23))]:Hp)) (λ_=>True) ?_ ?_
    ·refine av (aa (vB r_13.2) ?_)
     rcases aj h_49 with⟨hc_51,h_49⟩|⟨hc_51,h_49⟩
     ·refine ay rfl hc_51 wz (aG (vB r_18.2) wa rfl (aa (vB r_18.2) (aa (vB r_18.2) (af ?_))))
      obtain rfl:=ae h_49
      exact dx n_47 trivial rfl (aX rfl)
     ·refine ay rfl hc_51 wz (ah (aa (vB false) (aa (vB false) (af ?_))))
      obtain rfl:=ae h_49
      exact dx n_47 trivial rfl (aX rfl)
    ·rintro n_50 _ sl_ H_ hp_ hq_
     refine bu _ hp_ hq_ ?_
     obtain rfl:=ae hF
     exact aA (zq (n:=n_50) (.inr rfl) [(vB v_48)] ⟨rfl,trivial⟩ rfl rfl rfl rfl 1 rfl rfl)
theorem jW {s_1:ByteArray} {substr_2:ByteArray} {r:Int} (hF:cz s_1 substr_2=some r) :
  FnM Tryz.prog 82 [(vS s_1),(vS substr_2)] [] (vI r) []:=by
 refine FnM.of_wH ⟨Tryz.prog,143,[],[]⟩ rfl Tryz.func82 rfl rfl (lb_ rfl) (by kernel_rfl) ?_
 unfold cz at hF
 refine ai (aa (vI 0) (af (ai (aa (vS substr_2) (gG un9 rfl wz (aa (vI (substr_2.size:Int)) (af (au (bz (au ?_))))))))))
 obtain ⟨v_3,h_4,hF⟩:=bind_some hF
 refine bg [(0,(vS s_1)),(1,(vS substr_2)),(5,(vI (substr_2.size:Int))),(16,(vB v_3))] [] ?_ ?_
 ·refine av (aa (vI (substr_2.size:Int)) (aa (vB ((substr_2.size:Int)==0)) ?_))
  rcases aj h_4 with⟨hc_5,h_4⟩|⟨hc_5,h_4⟩
  ·refine ay rfl hc_5 wz (ah (ah (ah (aa (vB true) (aa (vB true) (af ?_))))))
   obtain rfl:=ae h_4
   exact cu
  ·refine ay rfl hc_5 wz (aG (vS substr_2) wa rfl (aG (vS s_1) wa rfl (aG (vB (sEq substr_2 s_1)) wa rfl (aa (vB (sEq substr_2 s_1)) (aa (vB (sEq substr_2 s_1)) (af ?_))))))
   obtain rfl:=ae h_4
   exact cu
 ·rintro ⟨⟩ _ sl_ H_ hp_ hq_
  refine bu _ hp_ hq_ ?_
  rcases aj hF with⟨hc_6,hF⟩|⟨hc_6,hF⟩
  ·refine aJ rfl hc_6 (ai (aa (vI 0) (af ?_)))
   obtain rfl:=ae hF
   exact aA (aO [(vI 0)] ⟨rfl,trivial⟩)
  ·refine aI rfl hc_6 (ai (aa (vI (substr_2.size:Int)) (aa (vB ((substr_2.size:Int)==1)) (aa (vB ((substr_2.size:Int)==1)) (af ?_)))))
   rcases aj hF with⟨hc_7,hF⟩|⟨hc_7,hF⟩
   ·refine aJ rfl hc_7 (ai (aa (vS s_1) (aa (vS substr_2) ?_)))
    obtain ⟨b_8,hy_9,hF⟩:=bind_some hF
    refine ql un9 rfl rfl hy_9 wz ?_
    obtain ⟨r_10,hr_11,hF⟩:=bind_some hF
    refine aD (eZ hr_11) rfl hb75 rfl rfl rfl rfl wz (aa (vI r_10) (af ?_))
    obtain rfl:=ae hF
    exact aA (aO [(vI r_10)] ⟨rfl,trivial⟩)
   ·refine aI rfl hc_7 (ai (aa (vI (substr_2.size:Int)) (aa (vS s_1) (gG un9 rfl wz (aa (vB (decide ((substr_2.size:Int)>=(s_1.size:Int)))) (aa (vB (decide ((substr_2.size:Int)>=(s_1.size:Int)))) (af ?_)))))))
    rcases aj hF with⟨hc_12,hF⟩|⟨hc_12,hF⟩
    ·refine aJ rfl hc_12 (ai (aa (vI (-1)) (af ?_)))
     obtain rfl:=ae hF
     exact aA (aO [(vI (-1))] ⟨rfl,trivial⟩)
    ·refine aI rfl hc_12 (ai (aa (vI (substr_2.size:Int)) ?_))
     cases hF
theorem kP {s_1:ByteArray} {sep_2:ByteArray} {r:ByteArray×ByteArray×Bool} (hF:dB s_1 sep_2=some r) :
  FnM Tryz.prog 69 [(vS s_1),(vS sep_2)] [] (.tup [(vS r.1),(vS r.2.1),(vB r.2.2)]) []:=by
 refine FnM.of_wH ⟨Tryz.prog,23,[],[]⟩ rfl Tryz.func69 rfl rfl (lb_ rfl) (by kernel_rfl) ?_
 unfold dB at hF
 refine ai (aa (vS (⟨#[]⟩:ByteArray)) (aa (vS (⟨#[]⟩:ByteArray)) (aa (vB false) (af (au (ai (aa (vS s_1) (aa (vS sep_2) ?_))))))))
 obtain ⟨r_3,hr_4,hF⟩:=bind_some hF
 refine aD (jW hr_4) rfl hb82 rfl rfl rfl rfl wz (aa (vI r_3) (af (ai (aa (vI r_3) (aa (vB (decide (r_3>=0))) (af ?_))))))
 rcases aj hF with⟨hc_5,hF⟩|⟨hc_5,hF⟩
 ·refine aJ rfl hc_5 (au (fD (aa (vS s_1) (aa (vI r_3) ?_))))
  obtain ⟨y_6,hy_7,hF⟩:=bind_some hF
  refine fT un9 rfl rfl hy_7 wz (aa (vS s_1) (aa (vI r_3) (aa (vS sep_2) (gG un9 rfl wz (aa (vI (w64 (r_3+(sep_2.size:Int)))) ?_)))))
  obtain ⟨y_8,hy_9,hF⟩:=bind_some hF
  refine gQ un9 rfl rfl hy_9 wz (aa (vS y_6) (aa (vS y_8) (aa (vB true) (af ?_))))
  obtain rfl:=ae hF
  exact aA (aO [(vS y_6),(vS y_8),(vB true)] ⟨rfl,⟨rfl,⟨rfl,trivial⟩⟩⟩)
 ·refine aI rfl hc_5 (aF (ai (aa (vS s_1) (aa (vS s_1) (aa (vS (⟨#[]⟩:ByteArray)) (aa (vB false) (af ?_)))))))
  obtain rfl:=ae hF
  exact aA (aO [(vS s_1),(vS (⟨#[]⟩:ByteArray)),(vB false)] ⟨rfl,⟨rfl,⟨rfl,trivial⟩⟩⟩)
theorem wF {s_1:ByteArray} {sep_2:ByteArray} {r:ByteArray×ByteArray×Bool} (hF:strings_Cut s_1 sep_2=some r) :
  FnM Tryz.prog 56 [(vS s_1),(vS sep_2)] [] (.tup [(vS r.1),(vS r.2.1),(vB r.2.2)]) []:=by
 refine FnM.of_wH ⟨Tryz.prog,13,[],[]⟩ rfl Tryz.func56 rfl rfl (lb_ rfl) (by kernel_rfl) ?_
 unfold strings_Cut at hF
 refine ai (aa (vS (⟨#[]⟩:ByteArray)) (aa (vS (⟨#[]⟩:ByteArray)) (aa (vB false) (af (ai (aa (vS s_1) (aa (vS sep_2) ?_)))))))
 obtain ⟨r_3,hr_4,hF⟩:=bind_some hF
 refine aD (kP hr_4) rfl hb69 rfl rfl rfl rfl wz (aa (vS r_3.1) (aa (vS r_3.2.1) (aa (vB r_3.2.2) (aa (vS r_3.1) (aa (vS r_3.2.1) (aa (vB r_3.2.2) (af ?_)))))))
 obtain rfl:=ae hF
 exact aA (aO [(vS r_3.1),(vS r_3.2.1),(vB r_3.2.2)] ⟨rfl,⟨rfl,⟨rfl,trivial⟩⟩⟩)
theorem uB {text_1:ByteArray} {take2_3:(List Campaign)} {r:Int×Bool×(List Campaign)} (hF:jo text_1 take2_3=some r) :
  FnM Tryz.prog 33 [(vS text_1),(.fn 34 [(.ref (ak 0) 0 0)])] (([.cells 1 [gV (ak 1) 8 take2_3]]:List Box)++gI 8 Campaign.enc take2_3) (.tup [(vI r.1),(vB r.2.1)]) (([some (.cells 1 [gV (ak (1+(gI 8 Campaign.enc take2_3).length)) 8 r.2.2])]:List (Option Box))++gT take2_3 none++gO 8 Campaign.enc r.2.2):=by
 refine FnM.of_wHc1 ⟨Tryz.prog,30,[],[]⟩ rfl Tryz.func33 rfl rfl (lb_ rfl) (by kernel_rfl) ?_
 unfold jo at hF
 refine ai (aa (vI 0) (aa (vB false) (af (au (ai (aa (vI 0) (af ?_)))))))
 obtain ⟨o_14,hj_15,hF⟩:=bind_some hF
 obtain ⟨nq_27,hj_15⟩:=qh hj_15
 refine Eu (σ:=(List Campaign)×ByteArray×Int) (N:=Nm) (λp=>(λ(s_9:(List Campaign)×ByteArray×Int) (n_11:Nm)=>([]:SL_)) p.1 p.2) (λp=>(λ(s_9:(List Campaign)×ByteArray×Int) (n_11:Nm)=>([((ak 0),some (.cells 1 [(gV n_11 8 s_9.1)])),(n_11,gB 8 Campaign.enc s_9.1)]:Hp)) p.1 p.2) (λ(k_4:Nat)=>(λp=>(λ(s_9:(List Campaign)×ByteArray×Int) (n_11:Nm)=>([(0,(vS s_9.2.1)),(1,(.fn 34 [(.ref (ak 0) 0 0)])),(6,(vI s_9.2.2))]:SL_)) p.1 p.2)) (λs=>bQ s) o_14 nq_27 ((take2_3,text_1,0),(ak 1)) hj_15 rfl (aX rfl) ?_ ?_
 ·rintro ⟨k_4,s_9,n_11⟩ hL_13
  dsimp only at hL_13
  cases k_4 with
  | zero=>cases hL_13
  | succ k_4 =>
   obtain ⟨c_,hc_12,hL_13⟩:=bind_some hL_13
   unfold bQ at hc_12
   refine au (ai (aa (vS s_9.2.1) (aa (vB (sNe s_9.2.1 (⟨#[]⟩:ByteArray))) (af ?_))))
   rcases aj hc_12 with⟨hc_16,hc_12⟩|⟨hc_16,hc_12⟩
   ·refine aJ rfl hc_16 (aF (au (bz (ai (aa (vS s_9.2.1) ?_)))))
    obtain ⟨r_17,hr_18,hc_12⟩:=bind_some hc_12
    refine aD (wF hr_18) rfl hb56 rfl rfl rfl rfl wz (aa (.tup [(vS r_17.1),(vS r_17.2.1),(vB r_17.2.2)]) (aa (vS r_17.1) (aa (vS r_17.2.1) (aa (vB r_17.2.2) (aa (vS r_17.1) (aa (vS r_17.2.1) (aa (vB r_17.2.2) (af (au (au ?_))))))))))
    obtain ⟨v_19,h_20,hc_12⟩:=bind_some hc_12
    refine jS (β:=Nm) (λ(n_21:Nm)=>([(1,(.fn 34 [(.ref (ak 0) 0 0)])),(6,(vI s_9.2.2)),(8,(vS r_17.2.1)),(27,(vB v_19.2))]:SL_)) (λ(n_21:Nm)=>([((ak 0),some (.cells 1 [(gV n_21 8 v_19.1)])),(n_21,gB 8 Campaign.enc v_19.1)]:Hp)) (λ_=>True) ?_ ?_
    ·refine av (aa (vB r_17.2.2) (aa (vB (!r_17.2.2)) ?_))
     rcases aj h_20 with⟨hc_22,h_20⟩|⟨hc_22,h_20⟩
     ·refine ay rfl hc_22 wz (ah (ah (ah (ah (aa (vB true) (af ?_))))))
      obtain rfl:=ae h_20
      exact dx n_11 trivial rfl (aX rfl)
     ·refine ay rfl hc_22 wz (aG (.fn 34 [(.ref (ak 0) 0 0)]) wa rfl (aG (vS r_17.1) wa rfl ?_))
      obtain ⟨r_23,hr_24,h_20⟩:=bind_some h_20
      refine x9 0 1 (mY hr_24) rfl hb34 rfl rfl (by kernel_rfl) (by kernel_rfl) (by kernel_rfl) (by kernel_rfl) (by decide) wa (λn_25=>([((ak 0),some (.cells 1 [(gV n_25 8 r_23.2)])),(n_11,none)]:Hp)) (λ_=>by kernel_rfl) (λn_25=>aG (vB (!r_23.1)) wa rfl (aa (vB (!r_23.1)) (af ?_)))
      obtain rfl:=ae h_20
      exact dx n_25 trivial rfl (pre_is [0,2] (by decide) rfl)
    ·rintro n_21 _ sl_ H_ hp_ hq_
     refine bu _ hp_ hq_ ?_
     rcases aj hc_12 with⟨hc_26,hc_12⟩|⟨hc_26,hc_12⟩
     ·refine aJ rfl hc_26 (ai (aa (vI s_9.2.2) (aa (vI s_9.2.2) (aa (vB false) (af ?_)))))
      obtain rfl:=ae hc_12
      obtain rfl:=ae hL_13
      obtain rfl:=ae hF
      exact aA (zq (n:=n_21) (.inr rfl) [(vI s_9.2.2),(vB false)] ⟨rfl,⟨rfl,trivial⟩⟩ rfl rfl rfl rfl 1 rfl rfl)
     ·refine aI rfl hc_26 (aF (av (aa (vS r_17.2.1) (aa (vS r_17.2.1) (af (av (aa (vI s_9.2.2) (aa (vI (w64 (s_9.2.2+1))) (aa (vI (w64 (s_9.2.2+1))) (af ?_))))))))))
      obtain rfl:=ae hc_12
      exact dJ (k_4,(v_19.1,r_17.2.1,(w64 (s_9.2.2+1))),n_21) hL_13 (ls_ _) rfl (aX rfl)
   ·refine aI rfl hc_16 (dK ?_)
    obtain rfl:=ae hc_12
    obtain rfl:=ae hL_13
    exact dx ((s_9.1,s_9.2.1,s_9.2.2),n_11) rfl rfl (aX rfl)
 ·rintro ⟨s_9,n_11⟩ ho_ sl_ H_ hp_ hq_
  subst ho_
  refine bu _ hp_ hq_ (ai (aa (vI 0) (aa (vB true) (af ?_))))
  obtain rfl:=ae hF
  exact aA (zq (n:=n_11) (.inr rfl) [(vI 0),(vB true)] ⟨rfl,⟨rfl,trivial⟩⟩ rfl rfl rfl rfl 1 rfl rfl)
theorem nV {text_1:ByteArray} {r:(List Campaign)×Int×Int} (hF:dQ text_1=some r) :
  FnM Tryz.prog 10 [(vS text_1)] [] (.tup [(vL Campaign.enc r.1),(vI r.2.1),(vI r.2.2)]) []:=by
 refine FnM.of_wH ⟨Tryz.prog,27,[],[]⟩ rfl Tryz.func10 rfl rfl (lb_ rfl) (by kernel_rfl) ?_
 unfold dQ at hF
 refine ai (aa .nil (aa (vI 0) (aa (vI 0) (af (au (ai (aa (vS text_1) (gG un9 rfl wz (aa (vB (decide ((text_1.size:Int)>200000))) (af ?_))))))))))
 rcases aj hF with⟨hc_2,hF⟩|⟨hc_2,hF⟩
 ·refine aJ rfl hc_2 (ai (aa .nil (aa (vI 0) (aa (vI 2) (af ?_)))))
  obtain rfl:=ae hF
  exact aA (aO [.nil,(vI 0),(vI 2)] ⟨rfl,⟨rfl,⟨rfl,trivial⟩⟩⟩)
 ·refine aI rfl hc_2 (aF (ai (iO 0 (.inl rfl) z26 rfl wz (λn_3=>af (ai (aa (vS text_1) (aa (.fn 34 [(.ref n_3 0 0)]) (o7 (λn_4=>Cx (b':=some (.cells 1 [(gV n_4 8 ([]:List Campaign))])) 0 rfl rfl (Cx (b':=gB 8 Campaign.enc ([]:List Campaign)) 1 rfl rfl ?_))))))))))
  obtain ⟨r_5,hr_6,hF⟩:=bind_some hF
  refine x9 0 1 (uB hr_6) rfl hb33 rfl rfl (by kernel_rfl) (by kernel_rfl) (by kernel_rfl) (by kernel_rfl) (by decide) wz (λn_7=>([(n_3,some (.cells 1 [(gV n_7 8 r_5.2.2)])),(n_4,none)]:Hp)) (λ_=>by kernel_rfl) (λn_7=>aa (.tup [(vI r_5.1),(vB r_5.2.1)]) (aa (vI r_5.1) (aa (vB r_5.2.1) (aa (vI r_5.1) (aa (vB r_5.2.1) (af (au (ai (aa (vB r_5.2.1) (aa (vB (!r_5.2.1)) (af ?_)))))))))))
  rcases aj hF with⟨hc_8,hF⟩|⟨hc_8,hF⟩
  ·refine aJ rfl hc_8 (ai (aa (vI r_5.1) (aa .nil (aa (vI r_5.1) (aa (vI 9) (af ?_))))))
   obtain rfl:=ae hF
   exact aA (aO [.nil,(vI r_5.1),(vI 9)] ⟨rfl,⟨rfl,⟨rfl,trivial⟩⟩⟩)
  ·refine aI rfl hc_8 (aF (au (au (jT 2 rfl (Bw 2 0 [(vL Campaign.enc r_5.2.2)] rfl rfl (λS hS=>dC (hS) (rfl)) (av (aY 0 0 il ft sz26 ag26 rfl rfl (vL Campaign.enc r_5.2.2) rfl wz ?_)))))))
   obtain ⟨r_9,hr_10,hF⟩:=bind_some hF
   refine aD (jy hr_10) rfl hb7 rfl rfl rfl rfl wz (aa (vI r_9) (af (ai (aa (vI r_9) (aa (vB (r_9 != 0)) (af ?_))))))
   rcases aj hF with⟨hc_11,hF⟩|⟨hc_11,hF⟩
   ·refine aJ rfl hc_11 (ai (aa (vI r_9) (aa .nil (aa (vI 0) (aa (vI r_9) (af ?_))))))
    obtain rfl:=ae hF
    exact aA (aO [.nil,(vI 0),(vI r_9)] ⟨rfl,⟨rfl,⟨rfl,trivial⟩⟩⟩)
   ·refine aI rfl hc_11 (aF (ai (aY 0 0 il ft sz26 ag26 rfl rfl (vL Campaign.enc r_5.2.2) rfl wz (aa (vL Campaign.enc r_5.2.2) (aa (vI 0) (aa (vI 0) (af ?_)))))))
    obtain rfl:=ae hF
    exact aA (aO [(vL Campaign.enc r_5.2.2),(vI 0),(vI 0)] ⟨rfl,⟨rfl,⟨rfl,trivial⟩⟩⟩)
theorem pM {a_1:Campaign} {b_2:Campaign} {r:Bool} (hF:cO a_1 b_2=some r) :
  FnM Tryz.prog 12 [(.d (.agg (Campaign.enc a_1))),(.d (.agg (Campaign.enc b_2)))] [] (vB r) []:=by
 refine FnM.of_wH ⟨Tryz.prog,10,[],[]⟩ rfl Tryz.func12 rfl rfl (lb_ rfl) (by kernel_rfl) ?_
 unfold cO at hF
 refine ai (wG 0 (.inl rfl) (Campaign.v a_1) rfl rfl wz (λn_3=>wG 0 (.inl rfl) (Campaign.v b_2) rfl rfl wz (λn_4=>aa (vB false) (af (au (fD (aY 0 0 (.inr (by kernel_rfl)) (λ_ _ ag=>trivial) gD mD rfl rfl (.d (.agg (Campaign.enc a_1))) rfl wz ?_)))))))
 obtain ⟨r_5,hr_6,hF⟩:=bind_some hF
 refine aD (iG hr_6) rfl hb30 rfl rfl rfl rfl wz (aY 2 1 (.inr (by kernel_rfl)) (λ_ _ ag=>⟨.inl ⟨rfl,rfl⟩,trivial⟩) gD mD rfl rfl (.d (.agg (Campaign.enc b_2))) rfl wz ?_)
 obtain ⟨r_7,hr_8,hF⟩:=bind_some hF
 refine aD (iG hr_8) rfl hb30 rfl rfl rfl rfl wz (aa (vB (sEq r_5 r_7)) (aa (vB (sEq r_5 r_7)) (af ?_)))
 obtain rfl:=ae hF
 exact aA (aO [(vB (sEq r_5 r_7))] ⟨rfl,trivial⟩)
theorem cB {s1_1:(List Campaign)} {s2_2:(List Campaign)} {r:Bool} (hF:aB s1_1 s2_2=some r) :
  FnM Tryz.prog 11 [(vL Campaign.enc s1_1),(vL Campaign.enc s2_2),(.fn 12 [])] [] (vB r) []:=by
 refine FnM.of_wH ⟨Tryz.prog,32,[],[]⟩ rfl Tryz.func11 rfl rfl (lb_ rfl) (by kernel_rfl) ?_
 unfold aB at hF
 refine ai (aa (vB false) (af (au (ai (aa (vL Campaign.enc s1_1) (eH uR rfl wz (aa (vL Campaign.enc s2_2) (eH uR rfl wz (aa (vB ((s1_1.length:Int) != (s2_2.length:Int))) (af ?_))))))))))
 rcases aj hF with⟨hc_4,hF⟩|⟨hc_4,hF⟩
 ·refine aJ rfl hc_4 (ai (aa (vB false) (af ?_)))
  obtain rfl:=ae hF
  exact aA (aO [(vB false)] ⟨rfl,trivial⟩)
 ·refine aI rfl hc_4 (aF (au (ai (aa (vL Campaign.enc s1_1) (eH uR rfl wz (aa (vI 0) (af ?_)))))))
  obtain ⟨o_13,hj_14,hF⟩:=bind_some hF
  obtain ⟨hn_9,hj_14⟩:=dh hj_14
  refine iy (λ(s_10:Unit)=>[]) (λ(s_10:Unit)=>[]) (λ(k_5:Nat)=>(λ(s_10:Unit)=>[(1,(vL Campaign.enc s2_2)),(2,(.fn 12 [])),(15,(vL Campaign.enc s1_1)),(16,(vI (s1_1.length:Int))),(17,(vI (k_5:Int)))])) (λk x s=>ax s2_2 k x s) o_13 s1_1 () hj_14 rfl (aX rfl) ?_ ?_
  ·rintro ⟨k_5,l_6,s_10⟩ ⟨hL_12,hD_8⟩
   dsimp only at hL_12 hD_8
   cases l_6 with
   | nil =>
    obtain rfl:=ae hL_12
    refine ai (aa (vB (decide ((k_5:Int)<(s1_1.length:Int)))) (af ?_))
    refine au (aI rfl (drop_nil hD_8) (dK ?_))
    exact dx (s_10) rfl rfl (aX rfl)
   | cons x_7 l_6 =>
    obtain ⟨c_,hc_11,hL_12⟩:=bind_some hL_12
    refine ai (aa (vB (decide ((k_5:Int)<(s1_1.length:Int)))) (af ?_))
    refine au (aJ rfl (dH hD_8) (aF ?_))
    unfold ax at hc_11
    refine au (bz (ai (aa (vI (k_5:Int)) (gL sF rfl rfl (d9 hD_8) rfl wz (dY gD mD rfl (.d (.agg (Campaign.enc x_7))) rfl wz (iO 0 (.inl rfl) z41 rfl wz (λn_15=>aa (vI (k_5:Int)) (ji 0 il ft 0 gD rfl rfl (Campaign.v x_7) rfl wz (af (ai (aa (vL Campaign.enc s2_2) (aa (vI (k_5:Int)) ?_))))))))))))
    obtain ⟨y_16,hy_17,hc_11⟩:=bind_some hc_11
    refine gL sF rfl rfl hy_17 rfl wz (dY gD mD rfl (.d (.agg (Campaign.enc y_16))) rfl wz (iO 0 (.inl rfl) z41 rfl wz (λn_18=>ji 0 il ft 1 gD rfl rfl (Campaign.v y_16) rfl wz (af (ai (aa (.fn 12 []) (aY 0 0 il ft gD mD rfl rfl (.d (.agg (Campaign.enc x_7))) rfl wz (aY 0 1 il ft gD mD rfl rfl (.d (.agg (Campaign.enc y_16))) rfl wz ?_))))))))
    obtain ⟨r_19,hr_20,hc_11⟩:=bind_some hc_11
    refine aD (pM hr_20) rfl hb12 rfl rfl rfl rfl wz (aa (vB (!r_19)) (af ?_))
    rcases aj hc_11 with⟨hc_21,hc_11⟩|⟨hc_21,hc_11⟩
    ·refine aJ rfl hc_21 (ai (aa (vB false) (af ?_)))
     obtain rfl:=ae hc_11
     obtain rfl:=ae hL_12
     obtain rfl:=ae hF
     exact aA (aO [(vB false)] ⟨rfl,trivial⟩)
    ·refine aI rfl hc_21 (aF (av (iL (dI hD_8 hn_9) wz rfl (aa (vI ((k_5+1:Nat):Int)) (af ?_)))))
     obtain rfl:=ae hc_11
     exact dJ (k_5+1,l_6,()) ⟨hL_12,bP hD_8⟩ (ls_ _) rfl (aX rfl)
  ·rintro s_10 ho_ sl_ H_ hp_ hq_
   subst ho_
   refine bu _ hp_ hq_ (ai (aa (vB true) (af ?_)))
   obtain rfl:=ae hF
   exact aA (aO [(vB true)] ⟨rfl,trivial⟩)
theorem uy {n_1:Int} {r:Bool} (hF:kR n_1=some r) :
  FnM Tryz.prog 58 [(vI n_1)] [] (vB r) []:=by
 refine FnM.of_wH ⟨Tryz.prog,9,[],[]⟩ rfl Tryz.func58 rfl rfl (lb_ rfl) (by kernel_rfl) ?_
 unfold kR at hF
 refine ai (aa (vB false) (af (au ?_)))
 obtain ⟨v_2,h_3,hF⟩:=bind_some hF
 refine bg [(2,(vB v_2))] [] ?_ ?_
 ·refine av (aa (vI n_1) (aa (vB (decide (n_1>=0))) ?_))
  rcases aj h_3 with⟨hc_4,h_3⟩|⟨hc_4,h_3⟩
  ·refine ay rfl hc_4 wz (aG (vI n_1) wa rfl (aG (vB (decide (n_1<345686400000))) wa rfl (aa (vB (decide (n_1<345686400000))) (aa (vB (decide (n_1<345686400000))) (af ?_)))))
   obtain rfl:=ae h_3
   exact cu
  ·refine ay rfl hc_4 wz (ah (ah (aa (vB false) (aa (vB false) (af ?_)))))
   obtain rfl:=ae h_3
   exact cu
 ·rintro ⟨⟩ _ sl_ H_ hp_ hq_
  refine bu _ hp_ hq_ ?_
  obtain rfl:=ae hF
  exact aA (aO [(vB v_2)] ⟨rfl,trivial⟩)
theorem wZ {c_1:Campaign} {atv_2:Int} {r:Int} (hF:lV c_1 atv_2=some r) :
  FnM Tryz.prog 59 [(.d (.agg (Campaign.enc c_1))),(vI atv_2)] [] (vI r) []:=by
 refine FnM.of_wH ⟨Tryz.prog,35,[],[]⟩ rfl Tryz.func59 rfl rfl (lb_ rfl) (by kernel_rfl) ?_
 unfold lV at hF
 refine ai (wG 0 (.inl rfl) (Campaign.v c_1) rfl rfl wz (λn_3=>aa (vI 0) (af (au (bz (ai (aa (vI atv_2) (aR iW rfl 2 rfl wz (aR mV rfl 2 rfl wz (aY 0 0 il ft sz3 ag3 rfl rfl (vI c_1.Time.From) rfl wz (aa (vB (decide (atv_2<c_1.Time.From))) (aa (vB (decide (atv_2<c_1.Time.From))) (af ?_)))))))))))))
 rcases aj hF with⟨hc_4,hF⟩|⟨hc_4,hF⟩
 ·refine aJ rfl hc_4 (ai (aa (vI 0) (af ?_)))
  obtain rfl:=ae hF
  exact aA (aO [(vI 0)] ⟨rfl,trivial⟩)
 ·refine aI rfl hc_4 (ai (aa (vI atv_2) (aR iW rfl 2 rfl wz (aR nu rfl 3 rfl wz (aY 0 0 il ft sz3 ag3 rfl rfl (vI c_1.Time.To) rfl wz (aa (vB (decide (atv_2>=c_1.Time.To))) (aa (vB (decide (atv_2>=c_1.Time.To))) (af ?_))))))))
  rcases aj hF with⟨hc_5,hF⟩|⟨hc_5,hF⟩
  ·refine aJ rfl hc_5 (ai (aR qj rfl 5 rfl wz (aY 0 0 il ft sz3 ag3 rfl rfl (vI c_1.Goal) rfl wz (aa (vI c_1.Goal) (af ?_)))))
   obtain rfl:=ae hF
   exact aA (aO [(vI c_1.Goal)] ⟨rfl,trivial⟩)
  ·refine aI rfl hc_5 (aF (ai (aR qj rfl 5 rfl wz (aY 0 0 il ft sz3 ag3 rfl rfl (vI c_1.Goal) rfl wz (aa (vI atv_2) (aR iW rfl 2 rfl wz (aR mV rfl 2 rfl wz (aY 0 0 il ft sz3 ag3 rfl rfl (vI c_1.Time.From) rfl wz (aa (vI (w64 (atv_2-c_1.Time.From))) (aa (vI (w64 (c_1.Goal*(w64 (atv_2-c_1.Time.From))))) (aR iW rfl 2 rfl wz (aR nu rfl 3 rfl wz (aY 0 0 il ft sz3 ag3 rfl rfl (vI c_1.Time.To) rfl wz (aR iW rfl 2 rfl wz (aR mV rfl 2 rfl wz (aY 0 0 il ft sz3 ag3 rfl rfl (vI c_1.Time.From) rfl wz (aa (vI (w64 (c_1.Time.To-c_1.Time.From))) ?_)))))))))))))))))
   obtain ⟨q_6,hz_7,hF⟩:=bind_some hF
   refine h_quo rfl rfl hz_7 wz (aa (vI q_6) (af (bu (H0:=([(n_3,some (.cells 8 (Campaign.v c_1)))]:Hp)) ([(4,(vI q_6))]:SL_) (by kernel_rfl) (vE (by kernel_rfl)) ?_)))
   obtain rfl:=ae hF
   exact aA (aO [(vI q_6)] ⟨rfl,trivial⟩)
theorem wQ {c_1:Campaign} {atv_2:Int} {r:Int×Int} (hF:ko c_1 atv_2=some r) :
  FnM Tryz.prog 38 [(.d (.agg (Campaign.enc c_1))),(vI atv_2)] [] (.tup [(vI r.1),(vI r.2)]) []:=by
 refine FnM.of_wH ⟨Tryz.prog,19,[],[]⟩ rfl Tryz.func38 rfl rfl (lb_ rfl) (by kernel_rfl) ?_
 unfold ko at hF
 refine ai (wG 0 (.inl rfl) (Campaign.v c_1) rfl rfl wz (λn_3=>aa (vI 0) (aa (vI 0) (af (au (ai (aY 0 0 il ft gD mD rfl rfl (.d (.agg (Campaign.enc c_1))) rfl wz (dU (([c_1]:List Campaign).map Campaign.enc) sF Eb rfl rfl rfl rfl rfl wz ?_))))))))
 obtain ⟨r_4,hr_5,hF⟩:=bind_some hF
 refine aD (fe hr_5) rfl hb21 rfl rfl rfl rfl wz (aa (vI r_4) (af (ai (aa (vI r_4) (aa (vB (r_4 != 0)) (af ?_))))))
 rcases aj hF with⟨hc_6,hF⟩|⟨hc_6,hF⟩
 ·refine aJ rfl hc_6 (ai (aa (vI r_4) (aa (vI 0) (aa (vI r_4) (af ?_)))))
  obtain rfl:=ae hF
  exact aA (aO [(vI 0),(vI r_4)] ⟨rfl,⟨rfl,trivial⟩⟩)
 ·refine aI rfl hc_6 (aF (au (ai (aa (vI atv_2) ?_))))
  obtain ⟨r_7,hr_8,hF⟩:=bind_some hF
  refine aD (uy hr_8) rfl hb58 rfl rfl rfl rfl wz (aa (vB (!r_7)) (af ?_))
  rcases aj hF with⟨hc_9,hF⟩|⟨hc_9,hF⟩
  ·refine aJ rfl hc_9 (ai (aa (vI 0) (aa (vI 1) (af ?_))))
   obtain rfl:=ae hF
   exact aA (aO [(vI 0),(vI 1)] ⟨rfl,⟨rfl,trivial⟩⟩)
  ·refine aI rfl hc_9 (aF (ai (aY 0 0 il ft gD mD rfl rfl (.d (.agg (Campaign.enc c_1))) rfl wz (aa (vI atv_2) ?_))))
   obtain ⟨r_10,hr_11,hF⟩:=bind_some hF
   refine aD (wZ hr_11) rfl hb59 rfl rfl rfl rfl wz (aa (vI r_10) (aa (vI 0) (af ?_)))
   obtain rfl:=ae hF
   exact aA (aO [(vI r_10),(vI 0)] ⟨rfl,⟨rfl,trivial⟩⟩)
theorem xG {r:Bool} (hF:jA  = some r) :
  FnM Tryz.prog 13 [] [] (vB r) []:=by
 refine FnM.of_wH ⟨Tryz.prog,15,[],[]⟩ rfl Tryz.func13 rfl rfl (lb_ rfl) (by kernel_rfl) ?_
 unfold jA at hF
 refine ai (aa (vB false) (af (ai (aG (.d (.agg (Window.enc (⟨0,100⟩:Window)))) wz (by kernel_rfl) (aG (.agg [(vS (⟨#[97]⟩:ByteArray)),(vS (⟨#[]⟩:ByteArray)),(vI 0),(vI 100),.nil,(vI 10),(vI 0),(vI 0)]) wz (by kernel_rfl) ?_)))))
 obtain ⟨r_1,hr_2,hF⟩:=bind_some hF
 refine aD (wQ hr_2) rfl hb38 rfl rfl rfl rfl wz (aa (.tup [(vI r_1.1),(vI r_1.2)]) (aa (vI r_1.1) (aa (vI r_1.2) (aa (vI r_1.1) (aa (vI r_1.2) (af (au ?_)))))))
 obtain ⟨v_3,h_4,hF⟩:=bind_some hF
 refine bg [(0,(vB v_3))] [] ?_ ?_
 ·refine av (aa (vI r_1.2) (aa (vB (r_1.2==0)) ?_))
  rcases aj h_4 with⟨hc_5,h_4⟩|⟨hc_5,h_4⟩
  ·refine ay rfl hc_5 wz (aG (vI r_1.1) wa rfl (aG (vB (r_1.1==5)) wa rfl (aa (vB (r_1.1==5)) (aa (vB (r_1.1==5)) (af ?_)))))
   obtain rfl:=ae h_4
   exact cu
  ·refine ay rfl hc_5 wz (ah (ah (aa (vB false) (aa (vB false) (af ?_)))))
   obtain rfl:=ae h_4
   exact cu
 ·rintro ⟨⟩ _ sl_ H_ hp_ hq_
  refine bu _ hp_ hq_ ?_
  obtain rfl:=ae hF
  exact aA (aO [(vB v_3)] ⟨rfl,trivial⟩)
theorem oD {l_1:(List Int)} {r:Bool} (hF:gK l_1=some r) :
  FnM Tryz.prog 3 [(vL eI l_1)] [] (vB r) []:=by
 refine FnM.of_wH ⟨Tryz.prog,72,[],[]⟩ rfl Tryz.func3 rfl rfl (lb_ rfl) (by kernel_rfl) ?_
 unfold gK at hF
 refine ai (aa (vB false) (af (ai (aa (vL eI l_1) (aG (.d (.agg (Stream.enc (⟨l_1,0⟩:Stream)))) wz (by kernel_rfl) (wG 0 (.inl rfl) [(vL eI l_1),(vI 0)] rfl rfl wz (λn_2=>aa (.ref n_2 0 0) (af (ai (aa (.ref n_2 0 0) ?_))))))))))
 obtain ⟨r_3,hr_4,hF⟩:=bind_some hF
 refine bf 0 [0] il ft (nC hr_4) rfl hb4 rfl (by kernel_rfl) (by kernel_rfl) (by kernel_rfl) (by kernel_rfl) (by kernel_rfl) (by kernel_rfl) (by kernel_rfl) (by decide) (by kernel_rfl) wz (vL Campaign.enc r_3.1) (by kernel_rfl) ([(n_2,some (.cells 2 [(vL eI r_3.2.L),(vI r_3.2.f_at)]))]:Hp) (by kernel_rfl) (aa (.ref n_2 0 0) ?_)
 obtain ⟨r_6,hr_7,hF⟩:=bind_some hF
 refine bf 0 [0] il ft (lT hr_7) rfl hb5 rfl (by kernel_rfl) (by kernel_rfl) (by kernel_rfl) (by kernel_rfl) (by kernel_rfl) (by kernel_rfl) (by kernel_rfl) (by decide) (by kernel_rfl) wz (vS r_6.1) (by kernel_rfl) ([(n_2,some (.cells 2 [(vL eI r_6.2.L),(vI r_6.2.f_at)]))]:Hp) (by kernel_rfl) (aa (vL Campaign.enc r_3.1) (aa (vS r_6.1) (af (ai (aa (vL Campaign.enc r_3.1) ?_)))))
 obtain ⟨r_9,hr_10,hF⟩:=bind_some hF
 refine aD (ut hr_10) rfl hb6 rfl rfl rfl rfl wz (aa (.tup [(vS r_9.1),(vI r_9.2)]) (aa (vS r_9.1) (aa (vI r_9.2) (aa (vS r_9.1) (aa (vI r_9.2) (af (ai (aa (vL Campaign.enc r_3.1) ?_))))))))
 obtain ⟨r_11,hr_12,hF⟩:=bind_some hF
 refine aD (jy hr_12) rfl hb7 rfl rfl rfl rfl wz (aa (vI r_11) (aa (vS (⟨#[]⟩:ByteArray)) (af (au (ai (aa (vI r_11) (aa (vB (r_11==0)) (af ?_))))))))
 obtain ⟨v_13,h_14,hF⟩:=bind_some hF
 refine bg [(5,(vS r_6.1)),(6,(vS r_9.1)),(7,(vI r_9.2)),(8,(vI r_11)),(9,(vS v_13))] [(n_2,some (.cells 2 [(vL eI r_6.2.L),(vI r_6.2.f_at)]))] ?_ ?_
 ·rcases aj h_14 with⟨hc_15,h_14⟩|⟨hc_15,h_14⟩
  ·refine aJ rfl hc_15 (av (aa (vL Campaign.enc r_3.1) ?_))
   obtain ⟨r_16,hr_17,h_14⟩:=bind_some h_14
   refine aD (jY hr_17) rfl hb8 rfl rfl rfl rfl wz (aa (vS r_16) (af ?_))
   obtain rfl:=ae h_14
   exact cu
  ·refine aI rfl hc_15 (aF ?_)
   obtain rfl:=ae h_14
   exact cu
 ·rintro ⟨⟩ _ sl_ H_ hp_ hq_
  refine bu _ hp_ hq_ (ai (aa (vS r_6.1) ?_))
  obtain ⟨r_18,hr_19,hF⟩:=bind_some hF
  refine aD (uC hr_19) rfl hb9 rfl rfl rfl rfl wz (aa (.tup [(vL Campaign.enc r_18.1),(vI r_18.2.1),(vI r_18.2.2)]) (aa (vL Campaign.enc r_18.1) (aa (vI r_18.2.1) (aa (vI r_18.2.2) (aa (vL Campaign.enc r_18.1) (aa (vI r_18.2.1) (aa (vI r_18.2.2) (af (ai (aa (vS r_6.1) ?_))))))))))
  obtain ⟨r_20,hr_21,hF⟩:=bind_some hF
  refine aD (nV hr_21) rfl hb10 rfl rfl rfl rfl wz (aa (.tup [(vL Campaign.enc r_20.1),(vI r_20.2.1),(vI r_20.2.2)]) (aa (vL Campaign.enc r_20.1) (aa (vI r_20.2.1) (aa (vI r_20.2.2) (aa (vL Campaign.enc r_20.1) (aa (vI r_20.2.1) (aa (vI r_20.2.2) (af (au ?_)))))))))
  obtain ⟨v_22,h_23,hF⟩:=bind_some hF
  refine bg [(2,(vB v_22))] [(n_2,some (.cells 2 [(vL eI r_6.2.L),(vI r_6.2.f_at)]))] ?_ ?_
  ·refine av (aa (vI r_9.2) (aa (vI r_11) (aa (vB (r_9.2==r_11)) ?_)))
   rcases aj h_23 with⟨hc_24,h_23⟩|⟨hc_24,h_23⟩
   ·refine ay rfl hc_24 wz (aG (vS r_9.1) wa rfl (aG (vS v_13) wa rfl (aG (vB (sEq r_9.1 v_13)) wa rfl (aa (vB (sEq r_9.1 v_13)) ?_))))
    rcases aj h_23 with⟨hc_25,h_23⟩|⟨hc_25,h_23⟩
    ·refine ay rfl hc_25 wz (aG (vL Campaign.enc r_18.1) wa rfl (aG (vL Campaign.enc r_20.1) wa rfl ?_))
     obtain ⟨r_26,hr_27,h_23⟩:=bind_some h_23
     refine aD (cB hr_27) rfl hb11 rfl rfl rfl rfl wa (aa (vB r_26) ?_)
     rcases aj h_23 with⟨hc_28,h_23⟩|⟨hc_28,h_23⟩
     ·refine ay rfl hc_28 wz (aG (vI r_18.2.1) wa rfl (aG (vI r_20.2.1) wa rfl (aG (vB (r_18.2.1==r_20.2.1)) wa rfl (aa (vB (r_18.2.1==r_20.2.1)) ?_))))
      rcases aj h_23 with⟨hc_29,h_23⟩|⟨hc_29,h_23⟩
      ·refine ay rfl hc_29 wz (aG (vI r_18.2.2) wa rfl (aG (vI r_20.2.2) wa rfl (aG (vB (r_18.2.2==r_20.2.2)) wa rfl (aa (vB (r_18.2.2==r_20.2.2)) ?_))))
       rcases aj h_23 with⟨hc_30,h_23⟩|⟨hc_30,h_23⟩
       ·refine ay rfl hc_30 wz ?_
        obtain ⟨r_31,hr_32,h_23⟩:=bind_some h_23
        refine aD (xG hr_32) rfl hb13 rfl rfl rfl rfl wa (aa (vB r_31) (aa (vB r_31) (af ?_)))
        obtain rfl:=ae h_23
        exact cu
       ·refine ay rfl hc_30 wz (ah (aa (vB false) (aa (vB false) (af ?_))))
        obtain rfl:=ae h_23
        exact cu
      ·refine ay rfl hc_29 wz (ah (ah (ah (aa (vB false) (aa (vB false) (ah (aa (vB false) (aa (vB false) (af ?_)))))))))
       obtain rfl:=ae h_23
       exact cu
     ·refine ay rfl hc_28 wz (ah (ah (ah (aa (vB false) (aa (vB false) (ah (ah (ah (aa (vB false) (aa (vB false) (ah (aa (vB false) (aa (vB false) (af ?_))))))))))))))
      obtain rfl:=ae h_23
      exact cu
    ·refine ay rfl hc_25 wz (ah (ah (ah (aa (vB false) (aa (vB false) (ah (ah (ah (aa (vB false) (aa (vB false) (ah (ah (ah (aa (vB false) (aa (vB false) (ah (aa (vB false) (aa (vB false) (af ?_)))))))))))))))))))
     obtain rfl:=ae h_23
     exact cu
   ·refine ay rfl hc_24 wz (ah (ah (ah (aa (vB false) (aa (vB false) (ah (ah (ah (aa (vB false) (aa (vB false) (ah (ah (ah (aa (vB false) (aa (vB false) (ah (ah (ah (aa (vB false) (aa (vB false) (ah (aa (vB false) (aa (vB false) ?_)))))))))))))))))))))))
    refine af ?_
    obtain rfl:=ae h_23
    exact cu
  ·rintro ⟨⟩ _ sl_ H_ hp_ hq_
   refine bu _ hp_ hq_ ?_
   obtain rfl:=ae hF
   exact aA (aO [(vB v_22)] ⟨rfl,trivial⟩)
end Go.Proofs.YtigdobmllbakiacGreatDoor.Law

