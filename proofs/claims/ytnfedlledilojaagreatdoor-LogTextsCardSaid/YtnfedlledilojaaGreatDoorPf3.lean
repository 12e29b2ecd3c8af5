/-
 The machine computes these plain functions (written by a program of ours).
-/
import Derived.Test.YtnfedlledilojaaGreatDoorFacts
import Derived.Test.YtnfedlledilojaaGreatDoorDefs
import Derived.Test.YtnfedlledilojaaGreatDoorPf2
open Go Go.Eng Go.Proofs
namespace Go.Proofs.YtnfedlledilojaaGreatDoor.Law
set_option maxRecDepth 100000
set_option linter.unusedVariables false
set_option maxHeartbeats 1000000
theorem jw {s1_1:(List Log_)} {s2_2:(List Log_)} {r:Bool} (hF:bL s1_1 s2_2=some r) :
  FnM Tryz.prog 11 [(vL Log_.enc s1_1),(vL Log_.enc s2_2)] [] (vB r) []:=by
 refine FnM.of_wH ⟨Tryz.prog,26,[],[]⟩ rfl Tryz.func11 rfl rfl (lb_ rfl) (by kernel_rfl) ?_
 unfold bL at hF
 refine ai (aa (vB false) (af (ak (ai (aa (vL Log_.enc s1_1) (dX sQ rfl wz (aa (vL Log_.enc s2_2) (dX sQ rfl wz (aa (vB ((s1_1.length:Int) != (s2_2.length:Int))) (af ?_))))))))))
 rcases aj hF with⟨hc_3,hF⟩|⟨hc_3,hF⟩
 ·refine aD rfl hc_3 (ai (aa (vB false) (af ?_)))
  obtain rfl:=ae hF
  exact av (aJ [(vB false)] ⟨rfl,trivial⟩)
 ·refine aF rfl hc_3 (aC (ak (ai (aa (vL Log_.enc s1_1) (dX sQ rfl wz (aa (vI 0) (af ?_)))))))
  obtain ⟨o_12,hj_13,hF⟩:=bind_some hF
  obtain ⟨hn_8,hj_13⟩:=bQ hj_13
  refine fI (λ(s_9:Unit)=>[]) (λ(s_9:Unit)=>[]) (λ(k_4:Nat)=>(λ(s_9:Unit)=>[(0,(vL Log_.enc s1_1)),(1,(vL Log_.enc s2_2)),(12,(vI (s1_1.length:Int))),(13,(vI (k_4:Int)))])) (λk x s=>aY s2_2 k x s) o_12 s1_1 () hj_13 rfl (aN rfl) ?_ ?_
  ·rintro ⟨k_4,l_5,s_9⟩ ⟨hL_11,hD_7⟩
   dsimp only at hL_11 hD_7
   cases l_5 with
   | nil =>
    obtain rfl:=ae hL_11
    refine ai (aa (vB (decide ((k_4:Int)<(s1_1.length:Int)))) (af ?_))
    refine ak (aF rfl (drop_nil hD_7) (dw ?_))
    exact bO (s_9) rfl rfl (aN rfl)
   | cons x_6 l_5 =>
    obtain ⟨c_,hc_10,hL_11⟩:=bind_some hL_11
    refine ai (aa (vB (decide ((k_4:Int)<(s1_1.length:Int)))) (af ?_))
    refine ak (aD rfl (dG hD_7) (aC ?_))
    unfold aY at hc_10
    refine ak (aU (ai (aa (vI (k_4:Int)) (aa (vI (k_4:Int)) (af (ak (bM (aa (vL Log_.enc s1_1) (aa (vI (k_4:Int)) (eT rE rfl rfl (dU hD_7) rfl wz (cz gz lN rfl (.d (.agg (Log_.enc x_6))) rfl wz (aa (vL Log_.enc s2_2) (aa (vI (k_4:Int)) ?_)))))))))))))
    obtain ⟨y_14,hy_15,hc_10⟩:=bind_some hc_10
    refine eT rE rfl rfl hy_15 rfl wz (cz gz lN rfl (.d (.agg (Log_.enc y_14))) rfl wz (aG (vB (!((x_6.Player.toList==y_14.Player.toList)&&((x_6.Item.toList==y_14.Item.toList)&&((x_6.No==y_14.No)&&((x_6.Clock==y_14.Clock)&&((x_6.Long==y_14.Long)&&((x_6.Sum.toList==y_14.Sum.toList)&&true)))))))) wz (by kernel_rfl) (af ?_)))
    rcases aj hc_10 with⟨hc_16,hc_10⟩|⟨hc_16,hc_10⟩
    ·refine aD rfl hc_16 (ai (aa (vB false) (af ?_)))
     obtain rfl:=ae hc_10
     obtain rfl:=ae hL_11
     obtain rfl:=ae hF
     exact av (aJ [(vB false)] ⟨rfl,trivial⟩)
    ·refine aF rfl hc_16 (aC (ax (iZ (dV hD_7 hn_8) wz rfl (aa (vI ((k_4+1:Nat):Int)) (af ?_)))))
     obtain rfl:=ae hc_10
     exact dx (k_4+1,l_5,()) ⟨hL_11,bJ hD_7⟩ (ls_ _) rfl (aN rfl)
  ·rintro s_9 ho_ sl_ H_ hp_ hq_
   subst ho_
   refine aV _ hp_ hq_ (ai (aa (vB true) (af ?_)))
   obtain rfl:=ae hF
   exact av (aJ [(vB true)] ⟨rfl,trivial⟩)
theorem gm {n_1:Int} {r:Bool} (hF:dK n_1=some r) :
  FnM Tryz.prog 75 [(vI n_1)] [] (vB r) []:=by
 refine FnM.of_wH ⟨Tryz.prog,9,[],[]⟩ rfl Tryz.func75 rfl rfl (lb_ rfl) (by kernel_rfl) ?_
 unfold dK at hF
 refine ai (aa (vB false) (af (ak ?_)))
 obtain ⟨v_2,h_3,hF⟩:=bind_some hF
 refine aS [(2,(vB v_2))] [] ?_ ?_
 ·refine ax (aa (vI n_1) (aa (vB (decide (n_1>=0))) ?_))
  rcases aj h_3 with⟨hc_4,h_3⟩|⟨hc_4,h_3⟩
  ·refine aA rfl hc_4 wz (aG (vI n_1) wa rfl (aG (vB (decide (n_1<345686400000))) wa rfl (aa (vB (decide (n_1<345686400000))) (aa (vB (decide (n_1<345686400000))) (af ?_)))))
   obtain rfl:=ae h_3
   exact cu
  ·refine aA rfl hc_4 wz (ah (ah (aa (vB false) (aa (vB false) (af ?_)))))
   obtain rfl:=ae h_3
   exact cu
 ·rintro ⟨⟩ _ sl_ H_ hp_ hq_
  refine aV _ hp_ hq_ ?_
  obtain rfl:=ae hF
  exact av (aJ [(vB v_2)] ⟨rfl,trivial⟩)
theorem nW {a_1:Beat} {b_2:Beat} {r:Int} (hF:ek a_1 b_2=some r) :
  FnM Tryz.prog 97 [(.d (.agg (Beat.enc a_1))),(.d (.agg (Beat.enc b_2)))] [] (vI r) []:=by
 refine FnM.of_wH ⟨Tryz.prog,17,[],[]⟩ rfl Tryz.func97 rfl rfl (lb_ rfl) (by kernel_rfl) ?_
 unfold ek at hF
 refine ai (nT 0 (.inl rfl) (Beat.v a_1) rfl rfl wz (λn_3=>nT 0 (.inl rfl) (Beat.v b_2) rfl rfl wz (λn_4=>aa (vI 0) (af (ak (bM (aQ rP rfl 0 rfl wz (aO 1 0 (.inr (by kernel_rfl)) (λ_ _ ag=>trivial) sz9 ag9 rfl rfl (vS a_1.Player) rfl wz (aQ rP rfl 0 rfl wz (aO 3 1 (.inr (by kernel_rfl)) (λ_ _ ag=>⟨.inl ⟨rfl,rfl⟩,trivial⟩) sz9 ag9 rfl rfl (vS b_2.Player) rfl wz ?_))))))))))
 obtain ⟨r_5,hr_6,hF⟩:=bind_some hF
 refine ay (iK hr_6) rfl hb49 rfl rfl rfl rfl wz (aQ vk rfl 1 rfl wz (aO 6 0 (.inr (by kernel_rfl)) (λ_ _ ag=>⟨.inl ⟨rfl,rfl⟩,⟨.inl ⟨rfl,rfl⟩,trivial⟩⟩) sz3 ag3 rfl rfl (vI a_1.At) rfl wz (aQ vk rfl 1 rfl wz (aO 8 1 (.inr (by kernel_rfl)) (λ_ _ ag=>⟨.inl ⟨rfl,rfl⟩,⟨.inl ⟨rfl,rfl⟩,⟨.inl ⟨rfl,rfl⟩,trivial⟩⟩⟩) sz3 ag3 rfl rfl (vI b_2.At) rfl wz ?_))))
 obtain ⟨r_7,hr_8,hF⟩:=bind_some hF
 refine ay (lD hr_8) rfl hb63 rfl rfl rfl rfl wz (fo (([r_5,r_7]:List Int).map eI) nK uJ rfl rfl rfl rfl rfl wz ?_)
 obtain ⟨r_9,hr_10,hF⟩:=bind_some hF
 refine ay (qg hr_10) rfl hb62 rfl rfl rfl rfl wz (aa (vI r_9) (af ?_))
 obtain rfl:=ae hF
 exact av (aJ [(vI r_9)] ⟨rfl,trivial⟩)
theorem pW {l_1:(List Beat)} {r:Int} (hF:fJ l_1=some r) :
  FnM Tryz.prog 74 [(vL Beat.enc l_1)] [] (vI r) []:=by
 refine FnM.of_wH ⟨Tryz.prog,69,[],[]⟩ rfl Tryz.func74 rfl rfl (lb_ rfl) (by kernel_rfl) ?_
 unfold fJ at hF
 refine ai (aa (vI 0) (af (ak (ai (aa (vL Beat.enc l_1) (dX un75 rfl wz (aa (vB (decide ((l_1.length:Int)>500))) (af ?_))))))))
 rcases aj hF with⟨hc_2,hF⟩|⟨hc_2,hF⟩
 ·refine aD rfl hc_2 (ai (aa (vI 2) (af ?_)))
  obtain rfl:=ae hF
  exact av (aJ [(vI 2)] ⟨rfl,trivial⟩)
 ·refine aF rfl hc_2 (aC (ak (ai (aa (vL Beat.enc l_1) (dX un75 rfl wz (aa (vI 0) (af ?_)))))))
  obtain ⟨o_11,hj_12,hF⟩:=bind_some hF
  obtain ⟨hn_7,hj_12⟩:=bQ hj_12
  refine fI (λ(s_8:Unit)=>[]) (λ(s_8:Unit)=>[]) (λ(k_3:Nat)=>(λ(s_8:Unit)=>[(0,(vL Beat.enc l_1)),(8,(vL Beat.enc l_1)),(9,(vI (l_1.length:Int))),(10,(vI (k_3:Int)))])) (λk x s=>fB l_1 k x s) o_11 l_1 () hj_12 rfl (aN rfl) ?_ ?_
  ·rintro ⟨k_3,l_4,s_8⟩ ⟨hL_10,hD_6⟩
   dsimp only at hL_10 hD_6
   cases l_4 with
   | nil =>
    obtain rfl:=ae hL_10
    refine ai (aa (vB (decide ((k_3:Int)<(l_1.length:Int)))) (af ?_))
    refine ak (aF rfl (drop_nil hD_6) (dw ?_))
    exact bO (s_8) rfl rfl (aN rfl)
   | cons x_5 l_4 =>
    obtain ⟨c_,hc_9,hL_10⟩:=bind_some hL_10
    refine ai (aa (vB (decide ((k_3:Int)<(l_1.length:Int)))) (af ?_))
    refine ak (aD rfl (dG hD_6) (aC ?_))
    unfold fB at hc_9
    refine ak (aU (ai (aa (vI (k_3:Int)) (eT Dv rfl rfl (dU hD_6) rfl wz (cz DT ag74 rfl (.d (.agg (Beat.enc x_5))) rfl wz (gY 0 (.inl rfl) z74 rfl wz (λn_13=>aa (vI (k_3:Int)) (je 0 il ft 0 DT rfl rfl (Beat.v x_5) rfl wz (af (aU (ai (aQ rP rfl 0 rfl wz (aO 0 0 il ft sz9 ag9 rfl rfl (vS x_5.Player) rfl wz ?_)))))))))))))
    obtain ⟨r_14,hr_15,hc_9⟩:=bind_some hc_9
    refine ay (kJ hr_15) rfl hb59 rfl rfl rfl rfl wz (aa (vB (!r_14)) (aa (vB (!r_14)) (af ?_)))
    rcases aj hc_9 with⟨hc_16,hc_9⟩|⟨hc_16,hc_9⟩
    ·refine aD rfl hc_16 (ai (aa (vI 5) (af ?_)))
     obtain rfl:=ae hc_9
     obtain rfl:=ae hL_10
     obtain rfl:=ae hF
     exact av (aJ [(vI 5)] ⟨rfl,trivial⟩)
    ·refine aF rfl hc_16 (ak ?_)
     obtain ⟨v_17,h_18,hc_9⟩:=bind_some hc_9
     refine aS [(0,(vL Beat.enc l_1)),(3,(vI (k_3:Int))),(4,(.ref n_13 0 0)),(8,(vL Beat.enc l_1)),(9,(vI (l_1.length:Int))),(10,(vI (k_3:Int))),(20,(vB v_17))] [(n_13,some (.cells 3 (Beat.v x_5)))] ?_ ?_
     ·refine ax (aQ vk rfl 1 rfl wz (aO 0 0 il ft sz3 ag3 rfl rfl (vI x_5.At) rfl wz ?_))
      obtain ⟨r_19,hr_20,h_18⟩:=bind_some h_18
      refine ay (gm hr_20) rfl FY rfl rfl rfl rfl wz (aa (vB (!r_19)) ?_)
      rcases aj h_18 with⟨hc_21,h_18⟩|⟨hc_21,h_18⟩
      ·refine aA rfl hc_21 wz (ah (ah (ah (aa (vB true) (aa (vB true) (af ?_))))))
       obtain rfl:=ae h_18
       exact cu
      ·refine aA rfl hc_21 wz (aQ xh rfl 2 rfl wa (aO 0 0 il ft sz3 ag3 rfl rfl (vI x_5.Clock) rfl wa ?_))
       obtain ⟨r_22,hr_23,h_18⟩:=bind_some h_18
       refine ay (jm hr_23) rfl hb60 rfl rfl rfl rfl wa (aa (vB r_22) (aa (vB r_22) (af ?_)))
       obtain rfl:=ae h_18
       exact cu
     ·rintro ⟨⟩ _ sl_ H_ hp_ hq_
      refine aV _ hp_ hq_ ?_
      rcases aj hc_9 with⟨hc_24,hc_9⟩|⟨hc_24,hc_9⟩
      ·refine aD rfl hc_24 (ai (aa (vI 1) (af ?_)))
       obtain rfl:=ae hc_9
       obtain rfl:=ae hL_10
       obtain rfl:=ae hF
       exact av (aJ [(vI 1)] ⟨rfl,trivial⟩)
      ·refine aF rfl hc_24 (ak ?_)
       obtain ⟨v_25,h_26,hc_9⟩:=bind_some hc_9
       refine aS [(0,(vL Beat.enc l_1)),(3,(vI (k_3:Int))),(4,(.ref n_13 0 0)),(8,(vL Beat.enc l_1)),(9,(vI (l_1.length:Int))),(10,(vI (k_3:Int))),(30,(vB v_25))] [(n_13,some (.cells 3 (Beat.v x_5)))] ?_ ?_
       ·refine bM (aa (vI (k_3:Int)) (aa (vB (decide ((k_3:Int)>0))) ?_))
        rcases aj h_26 with⟨hc_27,h_26⟩|⟨hc_27,h_26⟩
        ·refine aA rfl hc_27 wz (aG (vL Beat.enc l_1) wa rfl (aG (vI (k_3:Int)) wa rfl (aG (vI (w64 ((k_3:Int)-1))) wa rfl ?_)))
         obtain ⟨y_28,hy_29,h_26⟩:=bind_some h_26
         refine eT Dv rfl rfl hy_29 rfl wa (cz DT ag74 rfl (.d (.agg (Beat.enc y_28))) rfl wa (aO 8 0 (.inr (by kernel_rfl)) (λ_ _ ag=>trivial) DT ag74 rfl rfl (.d (.agg (Beat.enc x_5))) rfl wa ?_))
         obtain ⟨r_30,hr_31,h_26⟩:=bind_some h_26
         refine ay (nW hr_31) rfl hb97 rfl rfl rfl rfl wa (aG (vB (decide (r_30>=0))) wa rfl (aa (vB (decide (r_30>=0))) (aa (vB (decide (r_30>=0))) (af ?_))))
         obtain rfl:=ae h_26
         exact cu
        ·refine aA rfl hc_27 wz (ah (ah (ah (ah (ah (ah (ah (ah (aa (vB false) (aa (vB false) (af ?_)))))))))))
         obtain rfl:=ae h_26
         exact cu
       ·rintro ⟨⟩ _ sl_ H_ hp_ hq_
        refine aV _ hp_ hq_ ?_
        rcases aj hc_9 with⟨hc_32,hc_9⟩|⟨hc_32,hc_9⟩
        ·refine aD rfl hc_32 (ai (aa (vI 7) (af ?_)))
         obtain rfl:=ae hc_9
         obtain rfl:=ae hL_10
         obtain rfl:=ae hF
         exact av (aJ [(vI 7)] ⟨rfl,trivial⟩)
        ·refine aF rfl hc_32 (ak ?_)
         obtain ⟨v_33,h_34,hc_9⟩:=bind_some hc_9
         refine aS [(0,(vL Beat.enc l_1)),(8,(vL Beat.enc l_1)),(9,(vI (l_1.length:Int))),(10,(vI (k_3:Int))),(43,(vB v_33))] [(n_13,some (.cells 3 (Beat.v x_5)))] ?_ ?_
         ·refine bM (aa (vI (k_3:Int)) (aa (vB (decide ((k_3:Int)>0))) ?_))
          rcases aj h_34 with⟨hc_35,h_34⟩|⟨hc_35,h_34⟩
          ·refine aA rfl hc_35 wz (aQ rP rfl 0 rfl wa (aO 4 0 (.inr (by kernel_rfl)) (λ_ _ ag=>trivial) sz9 ag9 rfl rfl (vS x_5.Player) rfl wa (aG (vL Beat.enc l_1) wa rfl (aG (vI (k_3:Int)) wa rfl (aG (vI (w64 ((k_3:Int)-1))) wa rfl ?_)))))
           obtain ⟨y_36,hy_37,h_34⟩:=bind_some h_34
           refine eT Dv rfl rfl hy_37 rfl wa (vH rP rfl [.str y_36.Player,.int .i64 y_36.At,.int .i64 y_36.Clock] rfl rfl wa (cz sz9 ag9 rfl (vS y_36.Player) rfl wa (aG (vB (sEq x_5.Player y_36.Player)) wa rfl (aa (vB (sEq x_5.Player y_36.Player)) ?_))))
           rcases aj h_34 with⟨hc_38,h_34⟩|⟨hc_38,h_34⟩
           ·refine aA rfl hc_38 wz (aQ xh rfl 2 rfl wa (aO 15 0 (.inr (by kernel_rfl)) (λ_ _ ag=>⟨.inl ⟨rfl,rfl⟩,trivial⟩) sz3 ag3 rfl rfl (vI x_5.Clock) rfl wa (aG (vL Beat.enc l_1) wa rfl (aG (vI (k_3:Int)) wa rfl (aG (vI (w64 ((k_3:Int)-1))) wa rfl ?_)))))
            obtain ⟨y_39,hy_40,h_34⟩:=bind_some h_34
            refine eT Dv rfl rfl hy_40 rfl wa (vH xh rfl [.int .i64 y_39.Clock] rfl rfl wa (cz sz3 ag3 rfl (vI y_39.Clock) rfl wa (aG (vB (decide (x_5.Clock<=y_39.Clock))) wa rfl (aa (vB (decide (x_5.Clock<=y_39.Clock))) (aa (vB (decide (x_5.Clock<=y_39.Clock))) (af ?_))))))
            obtain rfl:=ae h_34
            exact cu
           ·refine aA rfl hc_38 wz (ah (ah (ah (ah (ah (ah (ah (ah (ah (aa (vB false) (aa (vB false) (af ?_))))))))))))
            obtain rfl:=ae h_34
            exact cu
          ·refine aA rfl hc_35 wz (ah (ah (ah (ah (ah (ah (ah (ah (ah (aa (vB false) (aa (vB false) (ah (ah (ah (ah (ah (ah (ah (ah (ah (aa (vB false) (aa (vB false) (af ?_)))))))))))))))))))))))
           obtain rfl:=ae h_34
           exact cu
         ·rintro ⟨⟩ _ sl_ H_ hp_ hq_
          refine aV _ hp_ hq_ ?_
          rcases aj hc_9 with⟨hc_41,hc_9⟩|⟨hc_41,hc_9⟩
          ·refine aD rfl hc_41 (ai (aa (vI 16) (af ?_)))
           obtain rfl:=ae hc_9
           obtain rfl:=ae hL_10
           obtain rfl:=ae hF
           exact av (aJ [(vI 16)] ⟨rfl,trivial⟩)
          ·refine aF rfl hc_41 (aC (ax (iZ (dV hD_6 hn_7) wz rfl (aa (vI ((k_3+1:Nat):Int)) (af ?_)))))
           obtain rfl:=ae hc_9
           exact dx (k_3+1,l_4,()) ⟨hL_10,bJ hD_6⟩ (ls_ _) rfl (aN rfl)
  ·rintro s_8 ho_ sl_ H_ hp_ hq_
   subst ho_
   refine aV _ hp_ hq_ (ai (aa (vI 0) (af ?_)))
   obtain rfl:=ae hF
   exact av (aJ [(vI 0)] ⟨rfl,trivial⟩)
theorem rX {l_1:(List Beat)} {player_2:ByteArray} {back_3:Bool} {r:(List Beat_)} (hF:iC l_1 player_2 back_3=some r) :
  FnM Tryz.prog 77 [(vL Beat.enc l_1),(vS player_2),(vB back_3)] [] (vL Beat_.enc r) []:=by
 refine FnM.of_wH ⟨Tryz.prog,41,[],[]⟩ rfl Tryz.func77 rfl rfl (lb_ rfl) (by kernel_rfl) ?_
 unfold iC at hF
 refine ai (aa .nil (af (ai (aa .nil (af (ak (ai (aa (vL Beat.enc l_1) (dX un75 rfl wz (aa (vI 0) (af (rW (λn_10 => ?_)))))))))))))
 obtain ⟨o_15,hj_16,hF⟩:=bind_some hF
 obtain ⟨hn_8,hj_16⟩:=bQ hj_16
 refine ji (σ:=(List Beat_)) (N:=Nm) (λp=>(λ(s_9:List Beat_) (n_12:Nm)=>([(7,(gV n_12 2 s_9))]:SL_)) p.1 p.2) (λp=>(λ(s_9:List Beat_) (n_12:Nm)=>([(n_12,gB 2 Beat_.enc s_9)]:Hp)) p.1 p.2) (λ(k_4:Nat)=>(λp=>(λ(s_9:List Beat_) (n_12:Nm)=>([(1,(vS player_2)),(2,(vB back_3)),(7,(gV n_12 2 s_9)),(10,(vL Beat.enc l_1)),(11,(vI (l_1.length:Int))),(12,(vI (k_4:Int)))]:SL_)) p.1 p.2)) (λk x s=>dY player_2 back_3 k x s) o_15 l_1 (([]:List Beat_),n_10) hj_16 rfl (aN rfl) ?_ ?_
 ·rintro ⟨k_4,l_5,s_9,n_12⟩ ⟨hL_14,hD_7⟩
  dsimp only at hL_14 hD_7
  cases l_5 with
  | nil =>
   obtain rfl:=ae hL_14
   refine ai (aa (vB (decide ((k_4:Int)<(l_1.length:Int)))) (af ?_))
   refine ak (aF rfl (drop_nil hD_7) (dw ?_))
   exact bO (s_9,n_12) rfl rfl (aN rfl)
  | cons x_6 l_5 =>
   obtain ⟨c_,hc_13,hL_14⟩:=bind_some hL_14
   refine ai (aa (vB (decide ((k_4:Int)<(l_1.length:Int)))) (af ?_))
   refine ak (aD rfl (dG hD_7) (aC ?_))
   unfold dY at hc_13
   refine ak (aU (ai (eT Dv rfl rfl (dU hD_7) rfl wz (cz DT ag74 rfl (.d (.agg (Beat.enc x_6))) rfl wz (gY 0 (.inl rfl) z74 rfl wz (λn_17=>je 0 il ft 1 DT rfl rfl (Beat.v x_6) rfl wz (af (aU (ai (aQ rP rfl 0 rfl wz (aO 0 1 il ft sz9 ag9 rfl rfl (vS x_6.Player) rfl wz (aa (vS player_2) (aa (vB (sNe x_6.Player player_2)) (aa (vB (sNe x_6.Player player_2)) (af ?_)))))))))))))))
   obtain ⟨v_18,h_19,hc_13⟩:=bind_some hc_13
   refine jN (β:=Nm) (λ(n_20:Nm)=>([(1,(vS player_2)),(2,(vB back_3)),(7,(gV n_20 2 v_18)),(10,(vL Beat.enc l_1)),(11,(vI (l_1.length:Int))),(12,(vI (k_4:Int)))]:SL_)) (λ(n_20:Nm)=>([(n_20,gB 2 Beat_.enc v_18),(n_17,some (.cells 3 (Beat.v x_6)))]:Hp)) (λ_=>True) ?_ ?_
   ·rcases aj h_19 with⟨hc_21,h_19⟩|⟨hc_21,h_19⟩
    ·refine aD rfl hc_21 (aC ?_)
     obtain rfl:=ae h_19
     exact bO n_12 trivial rfl (aN rfl)
    ·refine aF rfl hc_21 (ai (aa (vB back_3) (aa (vB back_3) (af ?_))))
     rcases aj h_19 with⟨hc_22,h_19⟩|⟨hc_22,h_19⟩
     ·refine aD rfl hc_22 (ax (aa (gV n_12 2 s_9) (aQ vk rfl 1 rfl wz (aO 0 1 il ft sz3 ag3 rfl rfl (vI x_6.At) rfl wz (aQ xh rfl 2 rfl wz (aO 0 1 il ft sz3 ag3 rfl rfl (vI x_6.Clock) rfl wz (aG (.d (.agg (Beat_.enc (⟨x_6.At,x_6.Clock⟩:Beat_)))) wz (by kernel_rfl) (fo (([(⟨x_6.At,x_6.Clock⟩:Beat_)]:List Beat_).map Beat_.enc) yR ez98 rfl rfl rfl rfl rfl wz ?_))))))))
      obtain ⟨a_23,hz_24,h_19⟩:=bind_some h_19
      refine oV 0 il ft (i:=0) el98 el98 yo z113 rfl (by decide) by113 (by decide) (λ_=>rfl) rfl rfl rfl hz_24 wz (λn_25=>aa (gV n_25 2 a_23) (af ?_))
      obtain rfl:=ae h_19
      exact bO n_25 trivial rfl (aN rfl)
     ·refine aF rfl hc_22 (ax (aa (gV n_12 2 s_9) (aQ xh rfl 2 rfl wz (aO 0 1 il ft sz3 ag3 rfl rfl (vI x_6.Clock) rfl wz (aQ vk rfl 1 rfl wz (aO 0 1 il ft sz3 ag3 rfl rfl (vI x_6.At) rfl wz (aG (.d (.agg (Beat_.enc (⟨x_6.Clock,x_6.At⟩:Beat_)))) wz (by kernel_rfl) (fo (([(⟨x_6.Clock,x_6.At⟩:Beat_)]:List Beat_).map Beat_.enc) yR ez98 rfl rfl rfl rfl rfl wz ?_))))))))
      obtain ⟨a_26,hz_27,h_19⟩:=bind_some h_19
      refine oV 0 il ft (i:=0) el98 el98 yo z113 rfl (by decide) by113 (by decide) (λ_=>rfl) rfl rfl rfl hz_27 wz (λn_28=>aa (gV n_28 2 a_26) (af ?_))
      obtain rfl:=ae h_19
      exact bO n_28 trivial rfl (aN rfl)
   ·rintro n_20 _ sl_ H_ hp_ hq_
    refine aV _ hp_ hq_ (ax (iZ (dV hD_7 hn_8) wz rfl (aa (vI ((k_4+1:Nat):Int)) (af ?_))))
    obtain rfl:=ae hc_13
    exact dx (k_4+1,l_5,v_18,n_20) ⟨hL_14,bJ hD_7⟩ (ls_ _) rfl (aN rfl)
 ·rintro ⟨s_9,n_12⟩ ho_ sl_ H_ hp_ hq_
  subst ho_
  refine aV _ hp_ hq_ (ai (aa (gV n_12 2 s_9) (aa (gV n_12 2 s_9) (af (kT 0 rfl (jd 6 0 rfl rfl (jd 7 0 rfl rfl (jd 40 0 rfl rfl ?_))))))))
  obtain rfl:=ae hF
  exact av (aJ [(vL Beat_.enc s_9)] ⟨rfl,trivial⟩)
theorem uo {l_1:(List Beat_)} {n_2:Int} {r:Int×Int} (hF:jr l_1 n_2=some r) :
  FnM Tryz.prog 76 [(vL Beat_.enc l_1),(vI n_2)] [] (.tup [(vI r.1),(vI r.2)]) []:=by
 refine FnM.of_wH ⟨Tryz.prog,108,[],[]⟩ rfl Tryz.func76 rfl rfl (lb_ rfl) (by kernel_rfl) ?_
 unfold jr at hF
 refine ai (aa (vI 0) (aa (vI 0) (af (ak (ai (aa (vL Beat_.enc l_1) (dX un98 rfl wz (aa (vB ((l_1.length:Int)==0)) (af ?_)))))))))
 rcases aj hF with⟨hc_3,hF⟩|⟨hc_3,hF⟩
 ·refine aD rfl hc_3 (ai (aa (vI 0) (aa (vI 8) (af ?_))))
  obtain rfl:=ae hF
  exact av (aJ [(vI 0),(vI 8)] ⟨rfl,⟨rfl,trivial⟩⟩)
 ·refine aF rfl hc_3 (aC (ai (aa (vI 0) (af (ak ?_)))))
  obtain ⟨o_12,hj_13,hF⟩:=bind_some hF
  obtain ⟨nq_51,hj_13⟩:=nG hj_13
  refine sw (λ(s_9:Int)=>[(0,(vL Beat_.enc l_1)),(1,(vI n_2)),(6,(vI s_9))]) (λ(s_9:Int)=>[]) (λ(k_4:Nat)=>(λ(s_9:Int)=>[(0,(vL Beat_.enc l_1)),(1,(vI n_2)),(6,(vI s_9))])) (λs=>dE l_1 n_2 s) o_12 nq_51 0 hj_13 rfl (aN rfl) ?_ ?_
  ·rintro ⟨k_4,s_9⟩ hL_11
   dsimp only at hL_11
   cases k_4 with
   | zero=>cases hL_11
   | succ k_4 =>
    obtain ⟨c_,hc_10,hL_11⟩:=bind_some hL_11
    unfold dE at hc_10
    refine ak (ak ?_)
    obtain ⟨v_14,h_15,hc_10⟩:=bind_some hc_10
    refine aS [(0,(vL Beat_.enc l_1)),(1,(vI n_2)),(6,(vI s_9)),(25,(vB v_14))] [] ?_ ?_
    ·refine ax (aa (vI s_9) (aa (vL Beat_.enc l_1) (dX un98 rfl wz (aa (vB (decide (s_9<(l_1.length:Int)))) ?_))))
     rcases aj h_15 with⟨hc_16,h_15⟩|⟨hc_16,h_15⟩
     ·refine aA rfl hc_16 wz (aG (vL Beat_.enc l_1) wa rfl (aG (vI s_9) wa rfl ?_))
      obtain ⟨y_17,hy_18,h_15⟩:=bind_some h_15
      refine eT yR rfl rfl hy_18 rfl wa (vH lV rfl [.int .i64 y_17.f_from,.int .i64 y_17.f_to] rfl rfl wa (cz sz3 ag3 rfl (vI y_17.f_from) rfl wa (aG (vI n_2) wa rfl (aG (vB (decide (y_17.f_from<=n_2))) wa rfl (aa (vB (decide (y_17.f_from<=n_2))) (af ?_))))))
      obtain rfl:=ae h_15
      exact cu
     ·refine aA rfl hc_16 wz (ah (ah (ah (ah (ah (ah (ah (aa (vB false) (af ?_)))))))))
      obtain rfl:=ae h_15
      exact cu
    ·rintro ⟨⟩ _ sl_ H_ hp_ hq_
     refine aV _ hp_ hq_ ?_
     rcases aj hc_10 with⟨hc_19,hc_10⟩|⟨hc_19,hc_10⟩
     ·refine aD rfl hc_19 (aC (aU (ax (aa (vI s_9) (aa (vI (w64 (s_9+1))) (aa (vI (w64 (s_9+1))) (af ?_)))))))
      obtain rfl:=ae hc_10
      exact dx (k_4,(w64 (s_9+1))) hL_11 (ls_ _) rfl (aN rfl)
     ·refine aF rfl hc_19 (dw ?_)
      obtain rfl:=ae hc_10
      obtain rfl:=ae hL_11
      exact bO (s_9) rfl rfl (aN rfl)
  ·rintro s_9 ho_ sl_ H_ hp_ hq_
   subst ho_
   refine aV _ hp_ hq_ (ai (aa (vI 0) (af (ak (aU (ai (aa (vI s_9) (aa (vB (s_9==0)) (aa (vB (s_9==0)) (af ?_))))))))))
   rcases aj hF with⟨hc_20,hF⟩|⟨hc_20,hF⟩
   ·refine aD rfl hc_20 (bM (aa (vL Beat_.enc l_1) ?_))
    obtain ⟨y_21,hy_22,hF⟩:=bind_some hF
    refine eT yR rfl rfl hy_22 rfl wz (vH ng rfl [.int .i64 y_21.f_to] rfl rfl wz (cz sz3 ag3 rfl (vI y_21.f_to) rfl wz (aa (vL Beat_.enc l_1) ?_)))
    obtain ⟨y_23,hy_24,hF⟩:=bind_some hF
    refine eT yR rfl rfl hy_24 rfl wz (vH lV rfl [.int .i64 y_23.f_from,.int .i64 y_23.f_to] rfl rfl wz (cz sz3 ag3 rfl (vI y_23.f_from) rfl wz (aa (vI n_2) (aa (vI (w64 (y_23.f_from-n_2))) (aa (vI (w64 (y_21.f_to-(w64 (y_23.f_from-n_2))))) (aa (vI (w64 (y_21.f_to-(w64 (y_23.f_from-n_2))))) (af (ak (ai (aa (vI (w64 (y_21.f_to-(w64 (y_23.f_from-n_2))))) ?_))))))))))
    obtain ⟨r_25,hr_26,hF⟩:=bind_some hF
    refine ay (gm hr_26) rfl FY rfl rfl rfl rfl wz (aa (vB (!r_25)) (af ?_))
    rcases aj hF with⟨hc_27,hF⟩|⟨hc_27,hF⟩
    ·refine aD rfl hc_27 (ai (aa (vI 0) (aa (vI 11) (af ?_))))
     obtain rfl:=ae hF
     exact av (aJ [(vI 0),(vI 11)] ⟨rfl,⟨rfl,trivial⟩⟩)
    ·refine aF rfl hc_27 (aC (ai (aa (vI (w64 (y_21.f_to-(w64 (y_23.f_from-n_2))))) (aa (vI (w64 (y_21.f_to-(w64 (y_23.f_from-n_2))))) (aa (vI 0) (af ?_))))))
     obtain rfl:=ae hF
     exact av (aJ [(vI (w64 (y_21.f_to-(w64 (y_23.f_from-n_2))))),(vI 0)] ⟨rfl,⟨rfl,trivial⟩⟩)
   ·refine aF rfl hc_20 (ai (aa (vI s_9) (aa (vL Beat_.enc l_1) (dX un98 rfl wz (aa (vB (s_9==(l_1.length:Int))) (aa (vB (s_9==(l_1.length:Int))) (af ?_)))))))
    rcases aj hF with⟨hc_28,hF⟩|⟨hc_28,hF⟩
    ·refine aD rfl hc_28 (bM (aa (vL Beat_.enc l_1) (aa (vI s_9) (aa (vI (w64 (s_9-1))) ?_))))
     obtain ⟨y_29,hy_30,hF⟩:=bind_some hF
     refine eT yR rfl rfl hy_30 rfl wz (vH ng rfl [.int .i64 y_29.f_to] rfl rfl wz (cz sz3 ag3 rfl (vI y_29.f_to) rfl wz (aa (vI n_2) (aa (vI (w64 (y_29.f_to+n_2))) (aa (vL Beat_.enc l_1) (aa (vI s_9) (aa (vI (w64 (s_9-1))) ?_)))))))
     obtain ⟨y_31,hy_32,hF⟩:=bind_some hF
     refine eT yR rfl rfl hy_32 rfl wz (vH lV rfl [.int .i64 y_31.f_from,.int .i64 y_31.f_to] rfl rfl wz (cz sz3 ag3 rfl (vI y_31.f_from) rfl wz (aa (vI (w64 ((w64 (y_29.f_to+n_2))-y_31.f_from))) (aa (vI (w64 ((w64 (y_29.f_to+n_2))-y_31.f_from))) (af (ak (ai (aa (vI (w64 ((w64 (y_29.f_to+n_2))-y_31.f_from))) ?_))))))))
     obtain ⟨r_33,hr_34,hF⟩:=bind_some hF
     refine ay (gm hr_34) rfl FY rfl rfl rfl rfl wz (aa (vB (!r_33)) (af ?_))
     rcases aj hF with⟨hc_35,hF⟩|⟨hc_35,hF⟩
     ·refine aD rfl hc_35 (ai (aa (vI 0) (aa (vI 11) (af (aV (H0:=([]:Hp)) ([(4,(vI 0)),(5,(vI 11))]:SL_) (by kernel_rfl) (qw (by kernel_rfl)) ?_)))))
      obtain rfl:=ae hF
      exact av (aJ [(vI 0),(vI 11)] ⟨rfl,⟨rfl,trivial⟩⟩)
     ·refine aF rfl hc_35 (aC (ai (aa (vI (w64 ((w64 (y_29.f_to+n_2))-y_31.f_from))) (aa (vI (w64 ((w64 (y_29.f_to+n_2))-y_31.f_from))) (aa (vI 0) (af (aV (H0:=([]:Hp)) ([(4,(vI (w64 ((w64 (y_29.f_to+n_2))-y_31.f_from)))),(5,(vI 0))]:SL_) (by kernel_rfl) (qw (by kernel_rfl)) ?_)))))))
      obtain rfl:=ae hF
      exact av (aJ [(vI (w64 ((w64 (y_29.f_to+n_2))-y_31.f_from))),(vI 0)] ⟨rfl,⟨rfl,trivial⟩⟩)
    ·refine aF rfl hc_28 (ak (bM (aa (vL Beat_.enc l_1) (aa (vI s_9) (aa (vI (w64 (s_9-1))) ?_)))))
     obtain ⟨y_36,hy_37,hF⟩:=bind_some hF
     refine eT yR rfl rfl hy_37 rfl wz (cz yo ag113 rfl (.d (.agg (Beat_.enc y_36))) rfl wz (aa (vL Beat_.enc l_1) (aa (vI s_9) ?_)))
     obtain ⟨y_38,hy_39,hF⟩:=bind_some hF
     refine eT yR rfl rfl hy_39 rfl wz (cz yo ag113 rfl (.d (.agg (Beat_.enc y_38))) rfl wz (gY 9 (.inr (by kernel_rfl)) z113 rfl wz (λn_40=>gY 10 (.inr (by kernel_rfl)) z113 rfl wz (λn_41=>je 11 (.inr (by kernel_rfl)) (λ_ _ ag=>⟨.inr (.inr (by kernel_rfl)),⟨.inr (.inr (by kernel_rfl)),trivial⟩⟩) 0 yo rfl rfl [(vI y_36.f_from),(vI y_36.f_to)] rfl wz (je 12 (.inr (by kernel_rfl)) (λ_ _ ag=>⟨.inr (.inr (by kernel_rfl)),⟨.inr (.inr (by kernel_rfl)),⟨.inr (.inr (by kernel_rfl)),trivial⟩⟩⟩) 1 yo rfl rfl [(vI y_38.f_from),(vI y_38.f_to)] rfl wz (af (ak (ak ?_))))))))
     obtain ⟨v_42,h_43,hF⟩:=bind_some hF
     refine aS [(1,(vI n_2)),(8,(.ref n_40 0 0)),(9,(.ref n_41 0 0)),(50,(vB v_42))] [(n_40,some (.cells 2 [(vI y_36.f_from),(vI y_36.f_to)])),(n_41,some (.cells 2 [(vI y_38.f_from),(vI y_38.f_to)]))] ?_ ?_
     ·refine ax (aQ lV rfl 0 rfl wz (aO 0 1 il ft sz3 ag3 rfl rfl (vI y_38.f_from) rfl wz (aQ lV rfl 0 rfl wz (aO 0 0 il ft sz3 ag3 rfl rfl (vI y_36.f_from) rfl wz (aa (vI (w64 (y_38.f_from-y_36.f_from))) (aa (vB (decide ((w64 (y_38.f_from-y_36.f_from))>2592000000))) ?_))))))
      rcases aj h_43 with⟨hc_44,h_43⟩|⟨hc_44,h_43⟩
      ·refine aA rfl hc_44 wz (ah (ah (ah (ah (ah (ah (aa (vB true) (af ?_))))))))
       obtain rfl:=ae h_43
       exact cu
      ·refine aA rfl hc_44 wz (aQ ng rfl 1 rfl wa (aO 0 1 il ft sz3 ag3 rfl rfl (vI y_38.f_to) rfl wa (aQ ng rfl 1 rfl wa (aO 0 0 il ft sz3 ag3 rfl rfl (vI y_36.f_to) rfl wa (aG (vI (w64 (y_38.f_to-y_36.f_to))) wa rfl (aG (vB (decide ((w64 (y_38.f_to-y_36.f_to))>2592000000))) wa rfl (aa (vB (decide ((w64 (y_38.f_to-y_36.f_to))>2592000000))) (af ?_))))))))
       obtain rfl:=ae h_43
       exact cu
     ·rintro ⟨⟩ _ sl_ H_ hp_ hq_
      refine aV _ hp_ hq_ ?_
      rcases aj hF with⟨hc_45,hF⟩|⟨hc_45,hF⟩
      ·refine aD rfl hc_45 (ai (aa (vI 0) (aa (vI 2) (af ?_))))
       obtain rfl:=ae hF
       exact av (aJ [(vI 0),(vI 2)] ⟨rfl,⟨rfl,trivial⟩⟩)
      ·refine aF rfl hc_45 (aC (bM (aQ ng rfl 1 rfl wz (aO 1 0 (.inr (by kernel_rfl)) (λ_ _ ag=>trivial) sz3 ag3 rfl rfl (vI y_36.f_to) rfl wz (aa (vI n_2) (aQ lV rfl 0 rfl wz (aO 4 0 (.inr (by kernel_rfl)) (λ_ _ ag=>⟨.inl ⟨rfl,rfl⟩,trivial⟩) sz3 ag3 rfl rfl (vI y_36.f_from) rfl wz (aa (vI (w64 (n_2-y_36.f_from))) (aQ ng rfl 1 rfl wz (aO 7 1 (.inr (by kernel_rfl)) (λ_ _ ag=>⟨.inl ⟨rfl,rfl⟩,⟨.inl ⟨rfl,rfl⟩,trivial⟩⟩) sz3 ag3 rfl rfl (vI y_38.f_to) rfl wz (aQ ng rfl 1 rfl wz (aO 9 0 (.inr (by kernel_rfl)) (λ_ _ ag=>⟨.inl ⟨rfl,rfl⟩,⟨.inl ⟨rfl,rfl⟩,⟨.inl ⟨rfl,rfl⟩,trivial⟩⟩⟩) sz3 ag3 rfl rfl (vI y_36.f_to) rfl wz (aa (vI (w64 (y_38.f_to-y_36.f_to))) (aa (vI (w64 ((w64 (n_2-y_36.f_from))*(w64 (y_38.f_to-y_36.f_to))))) (aQ lV rfl 0 rfl wz (aO 13 1 (.inr (by kernel_rfl)) (λ_ _ ag=>⟨.inl ⟨rfl,rfl⟩,⟨.inl ⟨rfl,rfl⟩,⟨.inl ⟨rfl,rfl⟩,⟨.inl ⟨rfl,rfl⟩,trivial⟩⟩⟩⟩) sz3 ag3 rfl rfl (vI y_38.f_from) rfl wz (aQ lV rfl 0 rfl wz (aO 15 0 (.inr (by kernel_rfl)) (λ_ _ ag=>⟨.inl ⟨rfl,rfl⟩,⟨.inl ⟨rfl,rfl⟩,⟨.inl ⟨rfl,rfl⟩,⟨.inl ⟨rfl,rfl⟩,⟨.inl ⟨rfl,rfl⟩,trivial⟩⟩⟩⟩⟩) sz3 ag3 rfl rfl (vI y_36.f_from) rfl wz (aa (vI (w64 (y_38.f_from-y_36.f_from))) ?_)))))))))))))))))))
       obtain ⟨q_46,hz_47,hF⟩:=bind_some hF
       refine h_quo rfl rfl hz_47 wz (aa (vI (w64 (y_36.f_to+q_46))) (aa (vI (w64 (y_36.f_to+q_46))) (af (ak (ai (aa (vI (w64 (y_36.f_to+q_46))) ?_))))))
       obtain ⟨r_48,hr_49,hF⟩:=bind_some hF
       refine ay (gm hr_49) rfl FY rfl rfl rfl rfl wz (aa (vB (!r_48)) (af ?_))
       rcases aj hF with⟨hc_50,hF⟩|⟨hc_50,hF⟩
       ·refine aD rfl hc_50 (ai (aa (vI 0) (aa (vI 11) (af ?_))))
        obtain rfl:=ae hF
        exact av (aJ [(vI 0),(vI 11)] ⟨rfl,⟨rfl,trivial⟩⟩)
       ·refine aF rfl hc_50 (aC (ai (aa (vI (w64 (y_36.f_to+q_46))) (aa (vI (w64 (y_36.f_to+q_46))) (aa (vI 0) (af ?_))))))
        obtain rfl:=ae hF
        exact av (aJ [(vI (w64 (y_36.f_to+q_46))),(vI 0)] ⟨rfl,⟨rfl,trivial⟩⟩)
theorem wB {l_1:(List Beat)} {player_2:ByteArray} {n_3:Int} {back_4:Bool} {r:Int×Int} (hF:iU l_1 player_2 n_3 back_4=some r) :
  FnM Tryz.prog 58 [(vL Beat.enc l_1),(vS player_2),(vI n_3),(vB back_4)] [] (.tup [(vI r.1),(vI r.2)]) []:=by
 refine FnM.of_wH ⟨Tryz.prog,30,[],[]⟩ rfl Tryz.func58 rfl rfl (lb_ rfl) (by kernel_rfl) ?_
 unfold iU at hF
 refine ai (aa (vI 0) (aa (vI 0) (af (ak (ai (aa (vL Beat.enc l_1) ?_))))))
 obtain ⟨r_5,hr_6,hF⟩:=bind_some hF
 refine ay (pW hr_6) rfl hb74 rfl rfl rfl rfl wz (aa (vI r_5) (af (ai (aa (vI r_5) (aa (vB (r_5 != 0)) (af ?_))))))
 rcases aj hF with⟨hc_7,hF⟩|⟨hc_7,hF⟩
 ·refine aD rfl hc_7 (ai (aa (vI r_5) (aa (vI 0) (aa (vI r_5) (af ?_)))))
  obtain rfl:=ae hF
  exact av (aJ [(vI 0),(vI r_5)] ⟨rfl,⟨rfl,trivial⟩⟩)
 ·refine aF rfl hc_7 (aC (ak (ai (aa (vS player_2) ?_))))
  obtain ⟨r_8,hr_9,hF⟩:=bind_some hF
  refine ay (kJ hr_9) rfl hb59 rfl rfl rfl rfl wz (aa (vB (!r_8)) (af ?_))
  rcases aj hF with⟨hc_10,hF⟩|⟨hc_10,hF⟩
  ·refine aD rfl hc_10 (ai (aa (vI 0) (aa (vI 5) (af ?_))))
   obtain rfl:=ae hF
   exact av (aJ [(vI 0),(vI 5)] ⟨rfl,⟨rfl,trivial⟩⟩)
  ·refine aF rfl hc_10 (aC (ak (ai (aa (vI n_3) ?_))))
   obtain ⟨r_11,hr_12,hF⟩:=bind_some hF
   refine ay (gm hr_12) rfl FY rfl rfl rfl rfl wz (aa (vB (!r_11)) (af ?_))
   rcases aj hF with⟨hc_13,hF⟩|⟨hc_13,hF⟩
   ·refine aD rfl hc_13 (ai (aa (vI 0) (aa (vI 1) (af ?_))))
    obtain rfl:=ae hF
    exact av (aJ [(vI 0),(vI 1)] ⟨rfl,⟨rfl,trivial⟩⟩)
   ·refine aF rfl hc_13 (aC (ai (aa (vL Beat.enc l_1) (aa (vS player_2) (aa (vB back_4) ?_)))))
    obtain ⟨r_14,hr_15,hF⟩:=bind_some hF
    refine ay (rX hr_15) rfl hb77 rfl rfl rfl rfl wz (aa (vI n_3) ?_)
    obtain ⟨r_16,hr_17,hF⟩:=bind_some hF
    refine ay (uo hr_17) rfl hb76 rfl rfl rfl rfl wz (aa (vI r_16.1) (aa (vI r_16.2) (aa (vI r_16.1) (aa (vI r_16.2) (af ?_)))))
    obtain rfl:=ae hF
    exact av (aJ [(vI r_16.1),(vI r_16.2)] ⟨rfl,⟨rfl,trivial⟩⟩)
theorem vo {l_1:(List Beat)} {player_2:ByteArray} {clock_3:Int} {r:Int×Int} (hF:ma l_1 player_2 clock_3=some r) :
  FnM Tryz.prog 36 [(vL Beat.enc l_1),(vS player_2),(vI clock_3)] [] (.tup [(vI r.1),(vI r.2)]) []:=by
 refine FnM.of_wH ⟨Tryz.prog,14,[],[]⟩ rfl Tryz.func36 rfl rfl (lb_ rfl) (by kernel_rfl) ?_
 unfold ma at hF
 refine ai (aa (vI 0) (aa (vI 0) (af (ai (aa (vL Beat.enc l_1) (aa (vS player_2) (aa (vI clock_3) ?_)))))))
 obtain ⟨r_4,hr_5,hF⟩:=bind_some hF
 refine ay (wB hr_5) rfl hb58 rfl rfl rfl rfl wz (aa (vI r_4.1) (aa (vI r_4.2) (aa (vI r_4.1) (aa (vI r_4.2) (af ?_)))))
 obtain rfl:=ae hF
 exact av (aJ [(vI r_4.1),(vI r_4.2)] ⟨rfl,⟨rfl,trivial⟩⟩)
theorem xH {r:Bool} (hF:lh  = some r) :
  FnM Tryz.prog 12 [] [] (vB r) []:=by
 refine FnM.of_wH ⟨Tryz.prog,16,[],[]⟩ rfl Tryz.func12 rfl rfl (lb_ rfl) (by kernel_rfl) ?_
 unfold lh at hF
 refine ai (aa (vB false) (af (ai (aG (.d (.agg (Beat.enc (⟨(⟨#[112]⟩:ByteArray),0,100⟩:Beat)))) wz (by kernel_rfl) (aG (.d (.agg (Beat.enc (⟨(⟨#[112]⟩:ByteArray),1000,1300⟩:Beat)))) wz (by kernel_rfl) (fo (([(⟨(⟨#[112]⟩:ByteArray),0,100⟩:Beat),(⟨(⟨#[112]⟩:ByteArray),1000,1300⟩:Beat)]:List Beat).map Beat.enc) Dv ez75 rfl rfl rfl rfl rfl wz ?_))))))
 obtain ⟨r_1,hr_2,hF⟩:=bind_some hF
 refine ay (vo hr_2) rfl hb36 rfl rfl rfl rfl wz (aa (.tup [(vI r_1.1),(vI r_1.2)]) (aa (vI r_1.1) (aa (vI r_1.2) (aa (vI r_1.1) (aa (vI r_1.2) (af (ak ?_)))))))
 obtain ⟨v_3,h_4,hF⟩:=bind_some hF
 refine aS [(0,(vB v_3))] [] ?_ ?_
 ·refine ax (aa (vI r_1.2) (aa (vB (r_1.2==0)) ?_))
  rcases aj h_4 with⟨hc_5,h_4⟩|⟨hc_5,h_4⟩
  ·refine aA rfl hc_5 wz (aG (vI r_1.1) wa rfl (aG (vB (r_1.1==500)) wa rfl (aa (vB (r_1.1==500)) (aa (vB (r_1.1==500)) (af ?_)))))
   obtain rfl:=ae h_4
   exact cu
  ·refine aA rfl hc_5 wz (ah (ah (aa (vB false) (aa (vB false) (af ?_)))))
   obtain rfl:=ae h_4
   exact cu
 ·rintro ⟨⟩ _ sl_ H_ hp_ hq_
  refine aV _ hp_ hq_ ?_
  obtain rfl:=ae hF
  exact av (aJ [(vB v_3)] ⟨rfl,trivial⟩)
theorem uE {l_1:(List Int)} {r:Bool} (hF:kI l_1=some r) :
  FnM Tryz.prog 3 [(vL eI l_1)] [] (vB r) []:=by
 refine FnM.of_wH ⟨Tryz.prog,72,[],[]⟩ rfl Tryz.func3 rfl rfl (lb_ rfl) (by kernel_rfl) ?_
 unfold kI at hF
 refine ai (aa (vB false) (af (ai (aa (vL eI l_1) (aG (.d (.agg (Stream.enc (⟨l_1,0⟩:Stream)))) wz (by kernel_rfl) (nT 0 (.inl rfl) [(vL eI l_1),(vI 0)] rfl rfl wz (λn_2=>aa (.ref n_2 0 0) (af (ai (aa (.ref n_2 0 0) ?_))))))))))
 obtain ⟨r_3,hr_4,hF⟩:=bind_some hF
 refine aX 0 [0] il ft (q8 hr_4) rfl hb4 rfl (by kernel_rfl) (by kernel_rfl) (by kernel_rfl) (by kernel_rfl) (by kernel_rfl) (by kernel_rfl) (by kernel_rfl) (by decide) (by kernel_rfl) wz (vL Log_.enc r_3.1) (by kernel_rfl) ([(n_2,some (.cells 2 [(vL eI r_3.2.L),(vI r_3.2.f_at)]))]:Hp) (by kernel_rfl) (aa (.ref n_2 0 0) ?_)
 obtain ⟨r_6,hr_7,hF⟩:=bind_some hF
 refine aX 0 [0] il ft (oC hr_7) rfl hb5 rfl (by kernel_rfl) (by kernel_rfl) (by kernel_rfl) (by kernel_rfl) (by kernel_rfl) (by kernel_rfl) (by kernel_rfl) (by decide) (by kernel_rfl) wz (vS r_6.1) (by kernel_rfl) ([(n_2,some (.cells 2 [(vL eI r_6.2.L),(vI r_6.2.f_at)]))]:Hp) (by kernel_rfl) (aa (vL Log_.enc r_3.1) (aa (vS r_6.1) (af (ai (aa (vL Log_.enc r_3.1) ?_)))))
 obtain ⟨r_9,hr_10,hF⟩:=bind_some hF
 refine ay (xJ hr_10) rfl hb6 rfl rfl rfl rfl wz (aa (.tup [(vS r_9.1),(vI r_9.2)]) (aa (vS r_9.1) (aa (vI r_9.2) (aa (vS r_9.1) (aa (vI r_9.2) (af (ai (aa (vL Log_.enc r_3.1) ?_))))))))
 obtain ⟨r_11,hr_12,hF⟩:=bind_some hF
 refine ay (mD hr_12) rfl hb7 rfl rfl rfl rfl wz (aa (vI r_11) (aa (vS (⟨#[]⟩:ByteArray)) (af (ak (ai (aa (vI r_11) (aa (vB (r_11==0)) (af ?_))))))))
 obtain ⟨v_13,h_14,hF⟩:=bind_some hF
 refine aS [(5,(vS r_6.1)),(6,(vS r_9.1)),(7,(vI r_9.2)),(8,(vI r_11)),(9,(vS v_13))] [(n_2,some (.cells 2 [(vL eI r_6.2.L),(vI r_6.2.f_at)]))] ?_ ?_
 ·rcases aj h_14 with⟨hc_15,h_14⟩|⟨hc_15,h_14⟩
  ·refine aD rfl hc_15 (ax (aa (vL Log_.enc r_3.1) ?_))
   obtain ⟨r_16,hr_17,h_14⟩:=bind_some h_14
   refine ay (nV hr_17) rfl hb8 rfl rfl rfl rfl wz (aa (vS r_16) (af ?_))
   obtain rfl:=ae h_14
   exact cu
  ·refine aF rfl hc_15 (aC ?_)
   obtain rfl:=ae h_14
   exact cu
 ·rintro ⟨⟩ _ sl_ H_ hp_ hq_
  refine aV _ hp_ hq_ (ai (aa (vS r_6.1) ?_))
  obtain ⟨r_18,hr_19,hF⟩:=bind_some hF
  refine ay (xB hr_19) rfl hb9 rfl rfl rfl rfl wz (aa (.tup [(vL Log_.enc r_18.1),(vI r_18.2.1),(vI r_18.2.2)]) (aa (vL Log_.enc r_18.1) (aa (vI r_18.2.1) (aa (vI r_18.2.2) (aa (vL Log_.enc r_18.1) (aa (vI r_18.2.1) (aa (vI r_18.2.2) (af (ai (aa (vS r_6.1) ?_))))))))))
  obtain ⟨r_20,hr_21,hF⟩:=bind_some hF
  refine ay (uy hr_21) rfl hb10 rfl rfl rfl rfl wz (aa (.tup [(vL Log_.enc r_20.1),(vI r_20.2.1),(vI r_20.2.2)]) (aa (vL Log_.enc r_20.1) (aa (vI r_20.2.1) (aa (vI r_20.2.2) (aa (vL Log_.enc r_20.1) (aa (vI r_20.2.1) (aa (vI r_20.2.2) (af (ak ?_)))))))))
  obtain ⟨v_22,h_23,hF⟩:=bind_some hF
  refine aS [(2,(vB v_22))] [(n_2,some (.cells 2 [(vL eI r_6.2.L),(vI r_6.2.f_at)]))] ?_ ?_
  ·refine ax (aa (vI r_9.2) (aa (vI r_11) (aa (vB (r_9.2==r_11)) ?_)))
   rcases aj h_23 with⟨hc_24,h_23⟩|⟨hc_24,h_23⟩
   ·refine aA rfl hc_24 wz (aG (vS r_9.1) wa rfl (aG (vS v_13) wa rfl (aG (vB (sEq r_9.1 v_13)) wa rfl (aa (vB (sEq r_9.1 v_13)) ?_))))
    rcases aj h_23 with⟨hc_25,h_23⟩|⟨hc_25,h_23⟩
    ·refine aA rfl hc_25 wz (aG (vL Log_.enc r_18.1) wa rfl (aG (vL Log_.enc r_20.1) wa rfl ?_))
     obtain ⟨r_26,hr_27,h_23⟩:=bind_some h_23
     refine ay (jw hr_27) rfl hb11 rfl rfl rfl rfl wa (aa (vB r_26) ?_)
     rcases aj h_23 with⟨hc_28,h_23⟩|⟨hc_28,h_23⟩
     ·refine aA rfl hc_28 wz (aG (vI r_18.2.1) wa rfl (aG (vI r_20.2.1) wa rfl (aG (vB (r_18.2.1==r_20.2.1)) wa rfl (aa (vB (r_18.2.1==r_20.2.1)) ?_))))
      rcases aj h_23 with⟨hc_29,h_23⟩|⟨hc_29,h_23⟩
      ·refine aA rfl hc_29 wz (aG (vI r_18.2.2) wa rfl (aG (vI r_20.2.2) wa rfl (aG (vB (r_18.2.2==r_20.2.2)) wa rfl (aa (vB (r_18.2.2==r_20.2.2)) ?_))))
       rcases aj h_23 with⟨hc_30,h_23⟩|⟨hc_30,h_23⟩
       ·refine aA rfl hc_30 wz ?_
        obtain ⟨r_31,hr_32,h_23⟩:=bind_some h_23
        refine ay (xH hr_32) rfl hb12 rfl rfl rfl rfl wa (aa (vB r_31) (aa (vB r_31) (af ?_)))
        obtain rfl:=ae h_23
        exact cu
       ·refine aA rfl hc_30 wz (ah (aa (vB false) (aa (vB false) (af ?_))))
        obtain rfl:=ae h_23
        exact cu
      ·refine aA rfl hc_29 wz (ah (ah (ah (aa (vB false) (aa (vB false) (ah (aa (vB false) (aa (vB false) (af ?_)))))))))
       obtain rfl:=ae h_23
       exact cu
     ·refine aA rfl hc_28 wz (ah (ah (ah (aa (vB false) (aa (vB false) (ah (ah (ah (aa (vB false) (aa (vB false) (ah (aa (vB false) (aa (vB false) (af ?_))))))))))))))
      obtain rfl:=ae h_23
      exact cu
    ·refine aA rfl hc_25 wz (ah (ah (ah (aa (vB false) (aa (vB false) (ah (ah (ah (aa (vB false) (aa (vB false) (ah (ah (ah (aa (vB false) (aa (vB false) (ah (aa (vB false) (aa (vB false) (af ?_)))))))))))))))))))
     obtain rfl:=ae h_23
     exact cu
   ·refine aA rfl hc_24 wz (ah (ah (ah (aa (vB false) (aa (vB false) (ah (ah (ah (aa (vB false) (aa (vB false) (ah (ah (ah (aa (vB false) (aa (vB false) (ah (ah (ah (aa (vB false) (aa (vB false) (ah (aa (vB false) (aa (vB false) ?_)))))))))))))))))))))))
    refine af ?_
    obtain rfl:=ae h_23
    exact cu
  ·rintro ⟨⟩ _ sl_ H_ hp_ hq_
   refine aV _ hp_ hq_ ?_
   obtain rfl:=ae hF
   exact av (aJ [(vB v_22)] ⟨rfl,trivial⟩)
end Go.Proofs.YtnfedlledilojaaGreatDoor.Law

