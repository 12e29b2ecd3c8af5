/-
 The machine computes these plain functions (written by a program of ours).
-/
import Derived.Test.YtjhcehhmdmbleaaGreatDoorFacts
import Derived.Test.YtjhcehhmdmbleaaGreatDoorDefs
import Derived.Test.YtjhcehhmdmbleaaGreatDoorPf6
import Derived.Test.YtjhcehhmdmbleaaGreatDoorShelf
open Go Go.Eng Go.Proofs
namespace Go.Proofs.YtjhcehhmdmbleaaGreatDoor.Law
set_option maxRecDepth 100000
set_option linter.unusedVariables false
set_option maxHeartbeats 1000000
theorem vv {l_1:(List Alert)} {a_2:Alert} {r:Int} (hF:pF l_1 a_2=some r) :
  FnM Tryz.prog 133 [(vL Alert.enc l_1),(.d (.agg (Alert.enc a_2)))] [] (vI r) []:=by
 refine FnM.of_wH ⟨Tryz.prog,34,[],[]⟩ rfl Tryz.func133 rfl rfl (lb_ rfl) (by kernel_rfl) ?_
 unfold pF at hF
 refine af (aa (dW 0 (.inl rfl) [(vS a_2.Id),(vS a_2.Sender),(vI a_2.Kind),(vL eS a_2.Refs),(vI a_2.At),(vI a_2.Until),(vI a_2.Weight),(vL Rect.enc a_2.Areas),(vS a_2.Text)] rfl rfl wz (λn_3=>ae (vI 0) wz rfl (ai (af (aa (aI xu rfl 5 rfl wz (aF 0 0 il ft sz3 ag3 rfl rfl (vI a_2.Until) rfl wz (ae (vI a_2.Until) wz rfl (ai (af (af (aa (ae (vL Alert.enc l_1) wz rfl (bN uT rfl wz (ae (vI 0) wz rfl (ai ?_)))))))))))))))))
 obtain ⟨o_12,hj_13,hF⟩:=bind_some hF
 obtain ⟨hn_8,hj_13⟩:=aU hj_13
 refine aG (β:=(Int)) (λ(s_9:Int)=>([(5,(vI s_9))]:SL_)) (λ(s_9:Int)=>([(n_3,some (.cells 9 [(vS a_2.Id),(vS a_2.Sender),(vI a_2.Kind),(vL eS a_2.Refs),(vI a_2.At),(vI a_2.Until),(vI a_2.Weight),(vL Rect.enc a_2.Areas),(vS a_2.Text)]))]:Hp)) (λp=>o_12 = .go p) ?_ ?_
 ·refine aD (bf (β:=Nat×(List Alert)×(Int)) (λp=>(λ(k_4:Nat) (l_5:List Alert) (s_9:Int)=>([(0,(vL Alert.enc l_1)),(3,(.ref n_3 0 0)),(5,(vI s_9)),(10,(vL Alert.enc l_1)),(11,(vI (l_1.length:Int))),(12,(vI (k_4:Int)))]:SL_)) p.1 p.2.1 p.2.2) (λp=>(λ(k_4:Nat) (l_5:List Alert) (s_9:Int)=>([(n_3,some (.cells 9 [(vS a_2.Id),(vS a_2.Sender),(vI a_2.Kind),(vL eS a_2.Refs),(vI a_2.At),(vI a_2.Until),(vI a_2.Weight),(vL Rect.enc a_2.Areas),(vS a_2.Text)]))]:Hp)) p.1 p.2.1 p.2.2) (λp=>forR (λk x s=>oG a_2 l_1 k x s) p.2.1 p.1 p.2.2=some o_12/\(l_1).drop p.1=p.2.1) (λp=>p.2.1.length) (0,l_1,a_2.Until) ⟨hj_13,rfl⟩ rfl (aJ rfl) ?_)
  rintro ⟨k_4,l_5,s_9⟩ ⟨hL_11,hD_7⟩
  dsimp only at hL_11 hD_7
  cases l_5 with
  | nil =>
   obtain rfl:=ah hL_11
   refine af (aa (ae (vB (decide ((k_4:Int)<(l_1.length:Int)))) wz rfl (ai ?_)))
   refine af (ay rfl (drop_nil hD_7) (aW ?_))
   exact aZ (s_9) rfl rfl (aJ rfl)
  | cons x_6 l_5 =>
   obtain ⟨c_,hc_10,hL_11⟩:=bind_some hL_11
   refine af (aa (ae (vB (decide ((k_4:Int)<(l_1.length:Int)))) wz rfl (ai ?_)))
   refine af (aA rfl (aY hD_7) (au ?_))
   unfold oG at hc_10
   refine af (aD (af (aa (fU qJ rfl rfl (bz hD_7) rfl wz (dn dF fJ rfl (.d (.agg (Alert.enc x_6))) rfl wz (cK 0 (.inl rfl) yh rfl wz (λn_14=>dJ 0 il ft 1 dF rfl rfl [(vS x_6.Id),(vS x_6.Sender),(vI x_6.Kind),(vL eS x_6.Refs),(vI x_6.At),(vI x_6.Until),(vI x_6.Weight),(vL Rect.enc x_6.Areas),(vS x_6.Text)] rfl wz (ai (af ?_)))))))))
   obtain ⟨v_15,h_16,hc_10⟩:=bind_some hc_10
   refine aG (β:=Unit) (λ_=>([(0,(vL Alert.enc l_1)),(3,(.ref n_3 0 0)),(5,(vI s_9)),(7,(.ref n_14 0 0)),(10,(vL Alert.enc l_1)),(11,(vI (l_1.length:Int))),(12,(vI (k_4:Int))),(27,(vB v_15))]:SL_)) (λ_=>([(n_3,some (.cells 9 [(vS a_2.Id),(vS a_2.Sender),(vI a_2.Kind),(vL eS a_2.Refs),(vI a_2.At),(vI a_2.Until),(vI a_2.Weight),(vL Rect.enc a_2.Areas),(vS a_2.Text)])),(n_14,some (.cells 9 [(vS x_6.Id),(vS x_6.Sender),(vI x_6.Kind),(vL eS x_6.Refs),(vI x_6.At),(vI x_6.Until),(vI x_6.Weight),(vL Rect.enc x_6.Areas),(vS x_6.Text)]))]:Hp)) (λ_=>True) ?_ ?_
   ·refine aa (aI kQ rfl 3 rfl wz (aF 0 1 il ft xL zT rfl rfl (vL eS x_6.Refs) rfl wz (aI eD rfl 0 rfl wz (aF 0 0 il ft sz9 ag9 rfl rfl (vS a_2.Id) rfl wz ?_))))
    obtain ⟨r_17,hr_18,h_16⟩:=bind_some h_16
    refine aB (oo hr_18) rfl hb189 rfl rfl rfl rfl wz ?_
    rcases ak h_16 with⟨hc_19,h_16⟩|⟨hc_19,h_16⟩
    ·refine aC rfl hc_19 wz (ae (vL Alert.enc l_1) wa rfl (aF 0 1 il ft dF fJ rfl rfl (.d (.agg (Alert.enc x_6))) rfl wa (aI eD rfl 0 rfl wa (aF 0 0 il ft sz9 ag9 rfl rfl (vS a_2.Id) rfl wa ?_))))
     obtain ⟨r_20,hr_21,h_16⟩:=bind_some h_16
     refine aB (Fg hr_21) rfl hb190 rfl rfl rfl rfl wa (ae (vB r_20) wz rfl (ai ?_))
     obtain rfl:=ah h_16
     exact cu
    ·refine aC rfl hc_19 wz (aj wa (aj wa (aj wa (aj wa (aj wa (ae (vB false) wz rfl (ai ?_)))))))
     obtain rfl:=ah h_16
     exact cu
   ·rintro ⟨⟩ _ sl_ H_ hp_ hq_
    refine aN _ hp_ hq_ ?_
    obtain ⟨v_22,h_23,hc_10⟩:=bind_some hc_10
    refine aG (β:=Unit) (λ_=>([(0,(vL Alert.enc l_1)),(3,(.ref n_3 0 0)),(5,(vI v_22)),(10,(vL Alert.enc l_1)),(11,(vI (l_1.length:Int))),(12,(vI (k_4:Int)))]:SL_)) (λ_=>([(n_3,some (.cells 9 [(vS a_2.Id),(vS a_2.Sender),(vI a_2.Kind),(vL eS a_2.Refs),(vI a_2.At),(vI a_2.Until),(vI a_2.Weight),(vL Rect.enc a_2.Areas),(vS a_2.Text)])),(n_14,some (.cells 9 [(vS x_6.Id),(vS x_6.Sender),(vI x_6.Kind),(vL eS x_6.Refs),(vI x_6.At),(vI x_6.Until),(vI x_6.Weight),(vL Rect.enc x_6.Areas),(vS x_6.Text)]))]:Hp)) (λ_=>True) ?_ ?_
    ·rcases ak h_23 with⟨hc_24,h_23⟩|⟨hc_24,h_23⟩
     ·refine aA rfl hc_24 (aa (ae (vI s_9) wz rfl (aI fq rfl 4 rfl wz (aF 0 1 il ft sz3 ag3 rfl rfl (vI x_6.At) rfl wz (BR (vI (BD s_9 x_6.At)) rfl (.inl rfl) wz (ae (vI (BD s_9 x_6.At)) wz rfl (ai ?_)))))))
      obtain rfl:=ah h_23
      exact cu
     ·refine ay rfl hc_24 (au ?_)
      obtain rfl:=ah h_23
      exact cu
    ·rintro ⟨⟩ _ sl_ H_ hp_ hq_
     refine aN _ hp_ hq_ (aa (dX (bg hD_7 hn_8) wz rfl (ae (vI ((k_4+1:Nat):Int)) wz rfl (ai ?_))))
     obtain rfl:=ah hc_10
     exact aV (k_4+1,l_5,v_22) ⟨hL_11,aQ hD_7⟩ (ls_ _) rfl (aJ rfl)
 ·rintro s_9 ho_ sl_ H_ hp_ hq_
  subst ho_
  refine aN _ hp_ hq_ (af (aa (ae (vI s_9) wz rfl (ae (vI s_9) wz rfl (ai ?_)))))
  obtain rfl:=ah hF
  exact ax (aR (.inr rfl) [(vI s_9)] ⟨rfl,trivial⟩ rfl rfl rfl)
theorem I1 {r_1:Rect} {x_2:Int} {y_3:Int} {r:Bool} (hF:zq r_1 x_2 y_3=some r) :
  FnM Tryz.prog 262 [(.d (.agg (Rect.enc r_1))),(vI x_2),(vI y_3)] [] (vB r) []:=by
 refine FnM.of_wH ⟨Tryz.prog,29,[],[]⟩ rfl Tryz.func262 rfl rfl (lb_ rfl) (by kernel_rfl) ?_
 unfold zq at hF
 refine af (aa (dW 0 (.inl rfl) [(vI r_1.X),(vI r_1.Y),(vI r_1.W),(vI r_1.H)] rfl rfl wz (λn_4=>ae (vB false) wz rfl (ai (af ?_)))))
 obtain ⟨v_5,h_6,hF⟩:=bind_some hF
 refine aG (β:=Unit) (λ_=>([(6,(vB v_5))]:SL_)) (λ_=>([(n_4,some (.cells 4 [(vI r_1.X),(vI r_1.Y),(vI r_1.W),(vI r_1.H)]))]:Hp)) (λ_=>True) ?_ ?_
 ·refine aa (ae (vI x_2) wz rfl (aI vG rfl 0 rfl wz (aF 0 0 il ft sz3 ag3 rfl rfl (vI r_1.X) rfl wz (aI vG rfl 0 rfl wz (aF 0 0 il ft sz3 ag3 rfl rfl (vI r_1.X) rfl wz (aI BG rfl 2 rfl wz (aF 0 0 il ft sz3 ag3 rfl rfl (vI r_1.W) rfl wz (ae (vI (w64 (r_1.X+r_1.W))) wz rfl (ae (vI (w64 ((w64 (r_1.X+r_1.W))-1))) wz rfl ?_)))))))))
  obtain ⟨r_7,hr_8,h_6⟩:=bind_some h_6
  refine aB (jr hr_8) rfl Ab rfl rfl rfl rfl wz ?_
  rcases ak h_6 with⟨hc_9,h_6⟩|⟨hc_9,h_6⟩
  ·refine aC rfl hc_9 wz (ae (vI y_3) wa rfl (aI vk rfl 1 rfl wa (aF 0 0 il ft sz3 ag3 rfl rfl (vI r_1.Y) rfl wa (aI vk rfl 1 rfl wa (aF 0 0 il ft sz3 ag3 rfl rfl (vI r_1.Y) rfl wa (aI zy rfl 3 rfl wa (aF 0 0 il ft sz3 ag3 rfl rfl (vI r_1.H) rfl wa (ae (vI (w64 (r_1.Y+r_1.H))) wa rfl (ae (vI (w64 ((w64 (r_1.Y+r_1.H))-1))) wa rfl ?_)))))))))
   obtain ⟨r_10,hr_11,h_6⟩:=bind_some h_6
   refine aB (jr hr_11) rfl Ab rfl rfl rfl rfl wa (ae (vB r_10) wz rfl (ae (vB r_10) wz rfl (ai ?_)))
   obtain rfl:=ah h_6
   exact cu
  ·refine aC rfl hc_9 wz (aj wa (aj wa (aj wa (aj wa (aj wa (aj wa (aj wa (aj wa (aj wa (aj wa (ae (vB false) wz rfl (ae (vB false) wz rfl (ai ?_)))))))))))))
   obtain rfl:=ah h_6
   exact cu
 ·rintro ⟨⟩ _ sl_ H_ hp_ hq_
  refine aN _ hp_ hq_ ?_
  obtain rfl:=ah hF
  exact ax (aR (.inr rfl) [(vB v_5)] ⟨rfl,trivial⟩ rfl rfl rfl)
theorem DI {r_1:Rect} {p_2:Int} {p_3:Int} {r:Bool} (hF:sF r_1 p_2 p_3=some r) :
  FnM Tryz.prog 261 [(.d (.agg (Rect.enc r_1))),(.ref (av 0) 0 0),(.ref (av 1) 0 0)] [(.cells 1 [(vI p_2)]),(.cells 1 [(vI p_3)])] (vB r) [some (.cells 1 [(vI p_2)]),some (.cells 1 [(vI p_3)])]:=by
 refine FnM.of_wH ⟨Tryz.prog,9,[],[]⟩ rfl Tryz.func261 rfl rfl (lb_ rfl) (by kernel_rfl) ?_
 unfold sF at hF
 refine af (aa (dW 0 (.inl rfl) [(vI r_1.X),(vI r_1.Y),(vI r_1.W),(vI r_1.H)] rfl rfl wz (λn_4=>ae (vB false) wz rfl (ai (af (aa (aF 0 2 il ft u7 Dn rfl rfl (.d (.agg (Rect.enc r_1))) rfl wz (aF 0 0 il ft sz3 ag3 rfl rfl (vI p_2) rfl wz (aF 0 1 il ft sz3 ag3 rfl rfl (vI p_3) rfl wz ?_)))))))))
 obtain ⟨r_5,hr_6,hF⟩:=bind_some hF
 refine aB (I1 hr_6) rfl hb262 rfl rfl rfl rfl wz (ae (vB r_5) wz rfl (ai ?_))
 obtain rfl:=ah hF
 exact ax (rW (.inr rfl) [(vB r_5)] _ [0,1] [av 0,av 1] ⟨rfl,trivial⟩ (.cons (gH rfl rfl) (.nil)) (by kernel_rfl) ⟨(by kernel_rfl),⟨(by kernel_rfl),trivial⟩⟩ (by decide) (by kernel_rfl))
theorem F4 {l_1:(List Rect)} {x_2:Int} {y_3:Int} {r:Bool} (hF:zm l_1 x_2 y_3=some r) :
  FnM Tryz.prog 191 [(vL Rect.enc l_1),(vI x_2),(vI y_3)] [] (vB r) []:=by
 refine FnM.of_wH ⟨Tryz.prog,10,[],[]⟩ rfl Tryz.func191 rfl rfl (lb_ rfl) (by kernel_rfl) ?_
 unfold zm at hF
 refine af (aa (dW 0 (.inl rfl) [(vI x_2)] rfl rfl wz (λn_4=>dW 0 (.inl rfl) [(vI y_3)] rfl rfl wz (λn_5=>ae (vB false) wz rfl (ai (af (aa (ae (vL Rect.enc l_1) wz rfl (ae (.fn 261 [(.ref n_4 0 0),(.ref n_5 0 0)]) wz rfl ?_)))))))))
 obtain ⟨r_6,hr_7,hF⟩:=bind_some hF
 refine aS 0 [0,1] il ft (iE (gid:=261) (caps:=[.ref (av 0) 0 0,.ref (av 1) 0 0]) (Sin:=[(.cells 1 [(vI x_2)]),(.cells 1 [(vI y_3)])]) (λ_ _ h_=>DI h_) hb261 ⟨rfl,rfl⟩ (by kernel_rfl) (yB (by kernel_rfl)) (uY (by kernel_rfl)) hr_7) rfl hb182 rfl (by kernel_rfl) (by kernel_rfl) (by kernel_rfl) (by kernel_rfl) (by kernel_rfl) (by kernel_rfl) (by kernel_rfl) (by decide) (by kernel_rfl) wz (vB r_6) (by kernel_rfl) ([(n_4,some (.cells 1 [(vI x_2)])),(n_5,some (.cells 1 [(vI y_3)]))]:Hp) (by kernel_rfl) (ae (vB r_6) wz rfl (ai ?_))
 obtain rfl:=ah hF
 exact ax (aR (.inr rfl) [(vB r_6)] ⟨rfl,trivial⟩ rfl rfl rfl)
theorem uJ {a_1:Alert} {p_2:Post} {r:Bool} (hF:lF a_1 p_2=some r) :
  FnM Tryz.prog 135 [(.d (.agg (Alert.enc a_1))),(.d (.agg (Post.enc p_2)))] [] (vB r) []:=by
 refine FnM.of_wH ⟨Tryz.prog,12,[],[]⟩ rfl Tryz.func135 rfl rfl (lb_ rfl) (by kernel_rfl) ?_
 unfold lF at hF
 refine af (aa (dW 0 (.inl rfl) [(vS a_1.Id),(vS a_1.Sender),(vI a_1.Kind),(vL eS a_1.Refs),(vI a_1.At),(vI a_1.Until),(vI a_1.Weight),(vL Rect.enc a_1.Areas),(vS a_1.Text)] rfl rfl wz (λn_3=>dW 0 (.inl rfl) [(vS p_2.Player),(vI p_2.X),(vI p_2.Y)] rfl rfl wz (λn_4=>ae (vB false) wz rfl (ai (af (aa (aI oF rfl 7 rfl wz (aF 0 0 il ft BQ EE rfl rfl (vL Rect.enc a_1.Areas) rfl wz (aI Ar rfl 1 rfl wz (aF 0 1 il ft sz3 ag3 rfl rfl (vI p_2.X) rfl wz (aI Dc rfl 2 rfl wz (aF 0 1 il ft sz3 ag3 rfl rfl (vI p_2.Y) rfl wz ?_)))))))))))))
 obtain ⟨r_5,hr_6,hF⟩:=bind_some hF
 refine aB (F4 hr_6) rfl hb191 rfl rfl rfl rfl wz (ae (vB r_5) wz rfl (ai ?_))
 obtain rfl:=ah hF
 exact ax (aR (.inr rfl) [(vB r_5)] ⟨rfl,trivial⟩ rfl rfl rfl)
theorem xX {l_1:(List Alert)} {a_2:Alert} {p_3:Post} {atv_4:Int} {r:Bool} (hF:pK l_1 a_2 p_3 atv_4=some r) :
  FnM Tryz.prog 132 [(vL Alert.enc l_1),(.d (.agg (Alert.enc a_2))),(.d (.agg (Post.enc p_3))),(vI atv_4)] [] (vB r) []:=by
 refine FnM.of_wH ⟨Tryz.prog,31,[],[]⟩ rfl Tryz.func132 rfl rfl (lb_ rfl) (by kernel_rfl) ?_
 unfold pK at hF
 refine af (aa (dW 0 (.inl rfl) [(vS a_2.Id),(vS a_2.Sender),(vI a_2.Kind),(vL eS a_2.Refs),(vI a_2.At),(vI a_2.Until),(vI a_2.Weight),(vL Rect.enc a_2.Areas),(vS a_2.Text)] rfl rfl wz (λn_5=>dW 0 (.inl rfl) [(vS p_3.Player),(vI p_3.X),(vI p_3.Y)] rfl rfl wz (λn_6=>ae (vB false) wz rfl (ai (af ?_))))))
 obtain ⟨v_7,h_8,hF⟩:=bind_some hF
 refine aG (β:=Unit) (λ_=>([(8,(vB v_7))]:SL_)) (λ_=>([(n_5,some (.cells 9 [(vS a_2.Id),(vS a_2.Sender),(vI a_2.Kind),(vL eS a_2.Refs),(vI a_2.At),(vI a_2.Until),(vI a_2.Weight),(vL Rect.enc a_2.Areas),(vS a_2.Text)])),(n_6,some (.cells 3 [(vS p_3.Player),(vI p_3.X),(vI p_3.Y)]))]:Hp)) (λ_=>True) ?_ ?_
 ·refine bR (aI lQ rfl 2 rfl wz (aF 1 0 (.inr (by kernel_rfl)) (λ_ _ ag=>trivial) sz3 ag3 rfl rfl (vI a_2.Kind) rfl wz (ae (vB (a_2.Kind != 3)) wz rfl ?_)))
  rcases ak h_8 with⟨hc_9,h_8⟩|⟨hc_9,h_8⟩
  ·refine aC rfl hc_9 wz (aI fq rfl 4 rfl wa (aF 5 0 (.inr (by kernel_rfl)) (λ_ _ ag=>⟨.inl ⟨rfl,rfl⟩,trivial⟩) sz3 ag3 rfl rfl (vI a_2.At) rfl wa (ae (vI atv_4) wa rfl (ae (vB (decide (a_2.At<=atv_4))) wa rfl (ae (vB (decide (a_2.At<=atv_4))) wz rfl ?_)))))
   rcases ak h_8 with⟨hc_10,h_8⟩|⟨hc_10,h_8⟩
   ·refine aC rfl hc_10 wz (aI fq rfl 4 rfl wa (aF 11 0 (.inr (by kernel_rfl)) (λ_ _ ag=>⟨.inl ⟨rfl,rfl⟩,⟨.inl ⟨rfl,rfl⟩,trivial⟩⟩) sz3 ag3 rfl rfl (vI a_2.At) rfl wa (ae (vL Alert.enc l_1) wa rfl (aF 13 0 (.inr (by kernel_rfl)) (λ_ _ ag=>⟨.inl ⟨rfl,rfl⟩,⟨.inl ⟨rfl,rfl⟩,⟨.inl ⟨rfl,rfl⟩,trivial⟩⟩⟩) dF fJ rfl rfl (.d (.agg (Alert.enc a_2))) rfl wa ?_))))
    obtain ⟨r_11,hr_12,h_8⟩:=bind_some h_8
    refine aB (vv hr_12) rfl Ls rfl rfl rfl rfl wa (ae (vB (decide (a_2.At<r_11))) wa rfl (ae (vB (decide (a_2.At<r_11))) wz rfl ?_))
    rcases ak h_8 with⟨hc_13,h_8⟩|⟨hc_13,h_8⟩
    ·refine aC rfl hc_13 wz (aF 18 0 (.inr (by kernel_rfl)) (λ_ _ ag=>⟨.inl ⟨rfl,rfl⟩,⟨.inl ⟨rfl,rfl⟩,⟨.inl ⟨rfl,rfl⟩,⟨.inl ⟨rfl,rfl⟩,trivial⟩⟩⟩⟩) dF fJ rfl rfl (.d (.agg (Alert.enc a_2))) rfl wa (aF 19 1 (.inr (by kernel_rfl)) (λ_ _ ag=>⟨.inl ⟨rfl,rfl⟩,⟨.inl ⟨rfl,rfl⟩,⟨.inl ⟨rfl,rfl⟩,⟨.inl ⟨rfl,rfl⟩,⟨.inl ⟨rfl,rfl⟩,trivial⟩⟩⟩⟩⟩) pg vX rfl rfl (.d (.agg (Post.enc p_3))) rfl wa ?_))
     obtain ⟨r_14,hr_15,h_8⟩:=bind_some h_8
     refine aB (uJ hr_15) rfl hb135 rfl rfl rfl rfl wa (ae (vB r_14) wz rfl (ae (vB r_14) wz rfl (ai ?_)))
     obtain rfl:=ah h_8
     exact cu
    ·refine aC rfl hc_13 wz (aj wa (aj wa (aj wa (ae (vB false) wz rfl (ae (vB false) wz rfl (ai ?_))))))
     obtain rfl:=ah h_8
     exact cu
   ·refine aC rfl hc_10 wz (aj wa (aj wa (aj wa (aj wa (aj wa (aj wa (ae (vB false) wz rfl (ae (vB false) wz rfl (aj wa (aj wa (aj wa (ae (vB false) wz rfl (ae (vB false) wz rfl (ai ?_))))))))))))))
    obtain rfl:=ah h_8
    exact cu
  ·refine aC rfl hc_9 wz (aj wa (aj wa (aj wa (aj wa (ae (vB false) wz rfl (ae (vB false) wz rfl (aj wa (aj wa (aj wa (aj wa (aj wa (aj wa (ae (vB false) wz rfl (ae (vB false) wz rfl (aj wa (aj wa (aj wa (ae (vB false) wz rfl (ae (vB false) wz rfl (ai ?_))))))))))))))))))))
   obtain rfl:=ah h_8
   exact cu
 ·rintro ⟨⟩ _ sl_ H_ hp_ hq_
  refine aN _ hp_ hq_ ?_
  obtain rfl:=ah hF
  exact ax (aR (.inr rfl) [(vB v_7)] ⟨rfl,trivial⟩ rfl rfl rfl)
section
variable [dM:DM]
theorem zJ {a_1:Debt} {b_2:Debt} {r:Int} (hF:lH a_1 b_2=some r) :
  FnM Tryz.prog 134 [(.d (.agg (Debt.enc a_1))),(.d (.agg (Debt.enc b_2)))] [] (vI r) []:=by
 refine FnM.of_wH ⟨Tryz.prog,16,[],[]⟩ rfl Tryz.func134 rfl rfl (lb_ rfl) (by kernel_rfl) ?_
 unfold lH at hF
 refine af (aa (dW 0 (.inl rfl) [(vS a_1.Player),(vS a_1.Alert),(vI a_1.Due),(vI a_1.Got)] rfl rfl wz (λn_3=>dW 0 (.inl rfl) [(vS b_2.Player),(vS b_2.Alert),(vI b_2.Due),(vI b_2.Got)] rfl rfl wz (λn_4=>ae (vI 0) wz rfl (ai (af (aa (aI EJ rfl 0 rfl wz (aF 0 0 il ft sz9 ag9 rfl rfl (vS a_1.Player) rfl wz (aI Fy rfl 1 rfl wz (aF 0 0 il ft sz9 ag9 rfl rfl (vS a_1.Alert) rfl wz (dQ (([a_1.Player,a_1.Alert]:List ByteArray).map eS) jZ qp rfl rfl rfl rfl rfl wz (aI EJ rfl 0 rfl wz (aF 0 1 il ft sz9 ag9 rfl rfl (vS b_2.Player) rfl wz (aI Fy rfl 1 rfl wz (aF 0 1 il ft sz9 ag9 rfl rfl (vS b_2.Alert) rfl wz (dQ (([b_2.Player,b_2.Alert]:List ByteArray).map eS) jZ qp rfl rfl rfl rfl rfl wz ?_)))))))))))))))))
 obtain ⟨r_5,hr_6,hF⟩:=bind_some hF
 refine aB (iw hr_6) rfl Nb rfl rfl rfl rfl wz (ae (vI r_5) wz rfl (ai ?_))
 obtain rfl:=ah hF
 exact ax (aR (.inr rfl) [(vI r_5)] ⟨rfl,trivial⟩ rfl rfl rfl)
end
theorem oV {x r:(List Debt)} (hF:gK x=some r) :
  FnM Tryz.prog 105 [(dV (av 0) 4 x),(.fn 134 [])] (([]:List Box)++gI 4 Debt.enc x) (.tup []) (([]:List Box).map some++gT x (gB 4 Debt.enc r)) :=
 xx (E:=Debt.enc) (F:=λa b=>lH a b) (λ_=>rfl) (λa b r h=>zJ (dM:=dmT) h) hb134 (λβ _ enc hk h1 cf hO g cb blk off cap d w eg hcmp hH hblk hsz=>Tryz.slices_SortFunc_eq_f105 4 Tryz.isAgg96 Tryz.sizeOf96 enc hk h1 cf hO g cb blk off cap d w eg hcmp hH hblk hsz) (λp cap fv w=>Tryz.slices_SortFunc_none_f105 (α:=Nat) p cap fv w) hF
theorem BB {l_1:(List Alert)} {posts_2:(List Post)} {r_3:(List Receipt)} {long_4:Int} {atv_5:Int} {r:(List Debt)} (hF:nV l_1 posts_2 r_3 long_4 atv_5=some r) :
  FnM Tryz.prog 57 [(vL Alert.enc l_1),(vL Post.enc posts_2),(vL Receipt.enc r_3),(vI long_4),(vI atv_5)] [] (vL Debt.enc r) []:=by
 refine FnM.of_wH ⟨Tryz.prog,87,[],[]⟩ rfl Tryz.func57 rfl rfl (lb_ rfl) (by kernel_rfl) ?_
 unfold nV at hF
 refine af (aa (ae .nil wz rfl (ai (af (aa (ae .nil wz rfl (ai (af (af (aa (ae (vL Post.enc posts_2) wz rfl (bN AY rfl wz (ae (vI 0) wz rfl (ai (rF (λn_12 => ?_))))))))))))))))
 obtain ⟨o_17,hj_18,hF⟩:=bind_some hF
 obtain ⟨hn_10,hj_18⟩:=aU hj_18
 refine aG (β:=((List Debt))×Nm) (λp=>(λ(s_11:List Debt) (n_14:Nm)=>([(11,(gV n_14 4 s_11))]:SL_)) p.1 p.2) (λp=>(λ(s_11:List Debt) (n_14:Nm)=>([(n_14,gB 4 Debt.enc s_11)]:Hp)) p.1 p.2) (λp=>o_17 = .go p.1) ?_ ?_
 ·refine aD (bf (β:=Nat×(List Post)×((List Debt))×Nm) (λp=>(λ(k_6:Nat) (l_7:List Post) (s_11:List Debt) (n_14:Nm)=>([(0,(vL Alert.enc l_1)),(2,(vL Receipt.enc r_3)),(3,(vI long_4)),(4,(vI atv_5)),(11,(gV n_14 4 s_11)),(18,(vL Post.enc posts_2)),(19,(vI (posts_2.length:Int))),(20,(vI (k_6:Int)))]:SL_)) p.1 p.2.1 p.2.2.1 p.2.2.2) (λp=>(λ(k_6:Nat) (l_7:List Post) (s_11:List Debt) (n_14:Nm)=>([(n_14,gB 4 Debt.enc s_11)]:Hp)) p.1 p.2.1 p.2.2.1 p.2.2.2) (λp=>forR (λk x s=>ol l_1 r_3 atv_5 long_4 k x s) p.2.1 p.1 p.2.2.1=some o_17/\(posts_2).drop p.1=p.2.1) (λp=>p.2.1.length) (0,posts_2,([]:List Debt),n_12) ⟨hj_18,rfl⟩ rfl (aJ rfl) ?_)
  rintro ⟨k_6,l_7,s_11,n_14⟩ ⟨hL_16,hD_9⟩
  dsimp only at hL_16 hD_9
  cases l_7 with
  | nil =>
   obtain rfl:=ah hL_16
   refine af (aa (ae (vB (decide ((k_6:Int)<(posts_2.length:Int)))) wz rfl (ai ?_)))
   refine af (ay rfl (drop_nil hD_9) (aW ?_))
   exact aZ (s_11,n_14) rfl rfl (aJ rfl)
  | cons x_8 l_7 =>
   obtain ⟨c_,hc_15,hL_16⟩:=bind_some hL_16
   refine af (aa (ae (vB (decide ((k_6:Int)<(posts_2.length:Int)))) wz rfl (ai ?_)))
   refine af (aA rfl (aY hD_9) (au ?_))
   unfold ol at hc_15
   refine af (aD (af (aa (fU A9 rfl rfl (bz hD_9) rfl wz (dn pg vX rfl (.d (.agg (Post.enc x_8))) rfl wz (cK 0 (.inl rfl) z66 rfl wz (λn_19=>dJ 0 il ft 1 pg rfl rfl [(vS x_8.Player),(vI x_8.X),(vI x_8.Y)] rfl wz (ai (af (aa (ae (vL Alert.enc l_1) wz rfl (bN uT rfl wz (ae (vI 0) wz rfl (ai ?_))))))))))))))
   obtain ⟨o_30,hj_31,hc_15⟩:=bind_some hc_15
   obtain ⟨hn_24,hj_31⟩:=aU hj_31
   refine aG (β:=((List Debt))×Nm) (λp=>(λ(s_25:List Debt) (n_27:Nm)=>([(0,(vL Alert.enc l_1)),(2,(vL Receipt.enc r_3)),(3,(vI long_4)),(4,(vI atv_5)),(11,(gV n_27 4 s_25)),(18,(vL Post.enc posts_2)),(19,(vI (posts_2.length:Int))),(20,(vI (k_6:Int)))]:SL_)) p.1 p.2) (λp=>(λ(s_25:List Debt) (n_27:Nm)=>([(n_27,gB 4 Debt.enc s_25),(n_19,some (.cells 3 [(vS x_8.Player),(vI x_8.X),(vI x_8.Y)]))]:Hp)) p.1 p.2) (λp=>o_30 = .go p.1) ?_ ?_
   ·refine aD (bf (β:=Nat×(List Alert)×((List Debt))×Nm) (λp=>(λ(k_20:Nat) (l_21:List Alert) (s_25:List Debt) (n_27:Nm)=>([(0,(vL Alert.enc l_1)),(2,(vL Receipt.enc r_3)),(3,(vI long_4)),(4,(vI atv_5)),(11,(gV n_27 4 s_25)),(13,(.ref n_19 0 0)),(18,(vL Post.enc posts_2)),(19,(vI (posts_2.length:Int))),(20,(vI (k_6:Int))),(24,(vL Alert.enc l_1)),(25,(vI (l_1.length:Int))),(26,(vI (k_20:Int)))]:SL_)) p.1 p.2.1 p.2.2.1 p.2.2.2) (λp=>(λ(k_20:Nat) (l_21:List Alert) (s_25:List Debt) (n_27:Nm)=>([(n_27,gB 4 Debt.enc s_25),(n_19,some (.cells 3 [(vS x_8.Player),(vI x_8.X),(vI x_8.Y)]))]:Hp)) p.1 p.2.1 p.2.2.1 p.2.2.2) (λp=>forR (λk x s=>kG r_3 x_8 atv_5 long_4 l_1 k x s) p.2.1 p.1 p.2.2.1=some o_30/\(l_1).drop p.1=p.2.1) (λp=>p.2.1.length) (0,l_1,s_11,n_14) ⟨hj_31,rfl⟩ rfl (aJ rfl) ?_)
    rintro ⟨k_20,l_21,s_25,n_27⟩ ⟨hL_29,hD_23⟩
    dsimp only at hL_29 hD_23
    cases l_21 with
    | nil =>
     obtain rfl:=ah hL_29
     refine af (aa (ae (vB (decide ((k_20:Int)<(l_1.length:Int)))) wz rfl (ai ?_)))
     refine af (ay rfl (drop_nil hD_23) (aW ?_))
     exact aZ (s_25,n_27) rfl rfl (aJ rfl)
    | cons x_22 l_21 =>
     obtain ⟨c_,hc_28,hL_29⟩:=bind_some hL_29
     refine af (aa (ae (vB (decide ((k_20:Int)<(l_1.length:Int)))) wz rfl (ai ?_)))
     refine af (aA rfl (aY hD_23) (au ?_))
     unfold kG at hc_28
     refine af (aD (af (aa (fU qJ rfl rfl (bz hD_23) rfl wz (dn dF fJ rfl (.d (.agg (Alert.enc x_22))) rfl wz (cK 0 (.inl rfl) yh rfl wz (λn_32=>dJ 0 il ft 2 dF rfl rfl [(vS x_22.Id),(vS x_22.Sender),(vI x_22.Kind),(vL eS x_22.Refs),(vI x_22.At),(vI x_22.Until),(vI x_22.Weight),(vL Rect.enc x_22.Areas),(vS x_22.Text)] rfl wz (ai (af (bR (aI mg rfl 0 rfl wz (aF 1 1 (.inr (by kernel_rfl)) (λ_ _ ag=>trivial) sz9 ag9 rfl rfl (vS x_8.Player) rfl wz (aI eD rfl 0 rfl wz (aF 3 2 (.inr (by kernel_rfl)) (λ_ _ ag=>⟨.inl ⟨rfl,rfl⟩,trivial⟩) sz9 ag9 rfl rfl (vS x_22.Id) rfl wz (aI fq rfl 4 rfl wz (aF 5 2 (.inr (by kernel_rfl)) (λ_ _ ag=>⟨.inl ⟨rfl,rfl⟩,⟨.inl ⟨rfl,rfl⟩,trivial⟩⟩) sz3 ag3 rfl rfl (vI x_22.At) rfl wz (ae (vI long_4) wz rfl (ae (vI (w64 (x_22.At+long_4))) wz rfl (ae (vL Receipt.enc r_3) wz rfl (aI mg rfl 0 rfl wz (aF 10 1 (.inr (by kernel_rfl)) (λ_ _ ag=>⟨.inl ⟨rfl,rfl⟩,⟨.inl ⟨rfl,rfl⟩,⟨.inl ⟨rfl,rfl⟩,trivial⟩⟩⟩) sz9 ag9 rfl rfl (vS x_8.Player) rfl wz (aI eD rfl 0 rfl wz (aF 12 2 (.inr (by kernel_rfl)) (λ_ _ ag=>⟨.inl ⟨rfl,rfl⟩,⟨.inl ⟨rfl,rfl⟩,⟨.inl ⟨rfl,rfl⟩,⟨.inl ⟨rfl,rfl⟩,trivial⟩⟩⟩⟩) sz9 ag9 rfl rfl (vS x_22.Id) rfl wz ?_)))))))))))))))))))))))
     refine ae (vI atv_5) wz rfl ?_
     obtain ⟨r_33,hr_34,hc_28⟩:=bind_some hc_28
     refine aB (Cw hr_34) rfl hb131 rfl rfl rfl rfl wz (ae (.d (.agg (Debt.enc (⟨x_8.Player,x_22.Id,(w64 (x_22.At+long_4)),r_33⟩:Debt)))) wz (by kernel_rfl) (cK 16 (.inr (by kernel_rfl)) z96 rfl wz (λn_35=>dJ 17 (.inr (by kernel_rfl)) (λ_ _ ag=>⟨.inr (.inr (by kernel_rfl)),⟨.inr (.inr (by kernel_rfl)),⟨.inr (.inr (by kernel_rfl)),⟨.inr (.inr (by kernel_rfl)),⟨.inr (.inr (by kernel_rfl)),⟨.inr (.inr (by kernel_rfl)),trivial⟩⟩⟩⟩⟩⟩) 3 IL rfl rfl [(vS x_8.Player),(vS x_22.Id),(vI (w64 (x_22.At+long_4))),(vI r_33)] rfl wz (ai (af ?_)))))
     obtain ⟨v_36,h_37,hc_28⟩:=bind_some hc_28
     refine aG (β:=Unit) (λ_=>([(0,(vL Alert.enc l_1)),(2,(vL Receipt.enc r_3)),(3,(vI long_4)),(4,(vI atv_5)),(11,(gV n_27 4 s_25)),(13,(.ref n_19 0 0)),(15,(.ref n_32 0 0)),(16,(.ref n_35 0 0)),(17,(vB v_36)),(18,(vL Post.enc posts_2)),(19,(vI (posts_2.length:Int))),(20,(vI (k_6:Int))),(24,(vL Alert.enc l_1)),(25,(vI (l_1.length:Int))),(26,(vI (k_20:Int)))]:SL_)) (λ_=>([(n_27,gB 4 Debt.enc s_25),(n_19,some (.cells 3 [(vS x_8.Player),(vI x_8.X),(vI x_8.Y)])),(n_32,some (.cells 9 [(vS x_22.Id),(vS x_22.Sender),(vI x_22.Kind),(vL eS x_22.Refs),(vI x_22.At),(vI x_22.Until),(vI x_22.Weight),(vL Rect.enc x_22.Areas),(vS x_22.Text)])),(n_35,some (.cells 4 [(vS x_8.Player),(vS x_22.Id),(vI (w64 (x_22.At+long_4))),(vI r_33)]))]:Hp)) (λ_=>True) ?_ ?_
     ·refine aa (aI MM rfl 3 rfl wz (aF 0 3 il ft sz3 ag3 rfl rfl (vI r_33) rfl wz (ae (vB (decide (r_33<0))) wz rfl ?_)))
      rcases ak h_37 with⟨hc_38,h_37⟩|⟨hc_38,h_37⟩
      ·refine aC rfl hc_38 wz (aj wa (aj wa (aj wa (aj wa (aj wa (ae (vB true) wz rfl (ae (vB true) wz rfl (ai ?_))))))))
       obtain rfl:=ah h_37
       exact cu
      ·refine aC rfl hc_38 wz (aI MM rfl 3 rfl wa (aF 0 3 il ft sz3 ag3 rfl rfl (vI r_33) rfl wa (aI Ia rfl 2 rfl wa (aF 0 3 il ft sz3 ag3 rfl rfl (vI (w64 (x_22.At+long_4))) rfl wa (ae (vB (decide (r_33>(w64 (x_22.At+long_4))))) wa rfl (ae (vB (decide (r_33>(w64 (x_22.At+long_4))))) wz rfl (ae (vB (decide (r_33>(w64 (x_22.At+long_4))))) wz rfl (ai ?_))))))))
       obtain rfl:=ah h_37
       exact cu
     ·rintro ⟨⟩ _ sl_ H_ hp_ hq_
      refine aN _ hp_ hq_ (af ?_)
      obtain ⟨v_39,h_40,hc_28⟩:=bind_some hc_28
      refine aG (β:=Unit) (λ_=>([(0,(vL Alert.enc l_1)),(2,(vL Receipt.enc r_3)),(3,(vI long_4)),(4,(vI atv_5)),(11,(gV n_27 4 s_25)),(13,(.ref n_19 0 0)),(16,(.ref n_35 0 0)),(18,(vL Post.enc posts_2)),(19,(vI (posts_2.length:Int))),(20,(vI (k_6:Int))),(24,(vL Alert.enc l_1)),(25,(vI (l_1.length:Int))),(26,(vI (k_20:Int))),(77,(vB v_39))]:SL_)) (λ_=>([(n_27,gB 4 Debt.enc s_25),(n_19,some (.cells 3 [(vS x_8.Player),(vI x_8.X),(vI x_8.Y)])),(n_32,some (.cells 9 [(vS x_22.Id),(vS x_22.Sender),(vI x_22.Kind),(vL eS x_22.Refs),(vI x_22.At),(vI x_22.Until),(vI x_22.Weight),(vL Rect.enc x_22.Areas),(vS x_22.Text)])),(n_35,some (.cells 4 [(vS x_8.Player),(vS x_22.Id),(vI (w64 (x_22.At+long_4))),(vI r_33)]))]:Hp)) (λ_=>True) ?_ ?_
      ·refine bR (ae (vL Alert.enc l_1) wz rfl (aF 1 2 (.inr (by kernel_rfl)) (λ_ _ ag=>trivial) dF fJ rfl rfl (.d (.agg (Alert.enc x_22))) rfl wz (aF 2 1 (.inr (by kernel_rfl)) (λ_ _ ag=>⟨.inl ⟨rfl,rfl⟩,trivial⟩) pg vX rfl rfl (.d (.agg (Post.enc x_8))) rfl wz (ae (vI atv_5) wz rfl ?_))))
       obtain ⟨r_41,hr_42,h_40⟩:=bind_some h_40
       refine aB (xX hr_42) rfl hb132 rfl rfl rfl rfl wz ?_
       rcases ak h_40 with⟨hc_43,h_40⟩|⟨hc_43,h_40⟩
       ·refine aC rfl hc_43 wz (aI Ia rfl 2 rfl wa (aF 7 3 (.inr (by kernel_rfl)) (λ_ _ ag=>⟨.inl ⟨rfl,rfl⟩,⟨.inl ⟨rfl,rfl⟩,trivial⟩⟩) sz3 ag3 rfl rfl (vI (w64 (x_22.At+long_4))) rfl wa (ae (vI atv_5) wa rfl (ae (vB (decide ((w64 (x_22.At+long_4))<atv_5))) wa rfl (ae (vB (decide ((w64 (x_22.At+long_4))<atv_5))) wz rfl ?_)))))
        rcases ak h_40 with⟨hc_44,h_40⟩|⟨hc_44,h_40⟩
        ·refine aC rfl hc_44 wz (ae (vB v_36) wa rfl (ae (vB v_36) wz rfl ?_))
         rcases ak h_40 with⟨hc_45,h_40⟩|⟨hc_45,h_40⟩
         ·refine aC rfl hc_45 wz (ae (vL Alert.enc l_1) wa rfl (aF 16 2 (.inr (by kernel_rfl)) (λ_ _ ag=>⟨.inl ⟨rfl,rfl⟩,⟨.inl ⟨rfl,rfl⟩,⟨.inl ⟨rfl,rfl⟩,trivial⟩⟩⟩) dF fJ rfl rfl (.d (.agg (Alert.enc x_22))) rfl wa ?_))
          obtain ⟨r_46,hr_47,h_40⟩:=bind_some h_40
          refine aB (vv hr_47) rfl Ls rfl rfl rfl rfl wa (aI Ia rfl 2 rfl wa (aF 19 3 (.inr (by kernel_rfl)) (λ_ _ ag=>⟨.inl ⟨rfl,rfl⟩,⟨.inl ⟨rfl,rfl⟩,⟨.inl ⟨rfl,rfl⟩,⟨.inl ⟨rfl,rfl⟩,trivial⟩⟩⟩⟩) sz3 ag3 rfl rfl (vI (w64 (x_22.At+long_4))) rfl wa (ae (vB (decide (r_46>=(w64 (x_22.At+long_4))))) wa rfl (ae (vB (decide (r_46>=(w64 (x_22.At+long_4))))) wz rfl (ai ?_)))))
          obtain rfl:=ah h_40
          exact cu
         ·refine aC rfl hc_45 wz (aj wa (aj wa (aj wa (aj wa (aj wa (aj wa (ae (vB false) wz rfl (ai ?_))))))))
          obtain rfl:=ah h_40
          exact cu
        ·refine aC rfl hc_44 wz (aj wa (ae (vB false) wz rfl (ae (vB false) wz rfl (aj wa (aj wa (aj wa (aj wa (aj wa (aj wa (ae (vB false) wz rfl (ai ?_)))))))))))
         obtain rfl:=ah h_40
         exact cu
       ·refine aC rfl hc_43 wz (aj wa (aj wa (aj wa (aj wa (ae (vB false) wz rfl (ae (vB false) wz rfl (aj wa (ae (vB false) wz rfl (ae (vB false) wz rfl (aj wa (aj wa (aj wa (aj wa (aj wa (aj wa (ae (vB false) wz rfl (ai ?_)))))))))))))))))
        obtain rfl:=ah h_40
        exact cu
      ·rintro ⟨⟩ _ sl_ H_ hp_ hq_
       refine aN _ hp_ hq_ ?_
       obtain ⟨v_48,h_49,hc_28⟩:=bind_some hc_28
       refine aG (β:=Nm) (λ(n_50:Nm)=>([(0,(vL Alert.enc l_1)),(2,(vL Receipt.enc r_3)),(3,(vI long_4)),(4,(vI atv_5)),(11,(gV n_50 4 v_48)),(13,(.ref n_19 0 0)),(18,(vL Post.enc posts_2)),(19,(vI (posts_2.length:Int))),(20,(vI (k_6:Int))),(24,(vL Alert.enc l_1)),(25,(vI (l_1.length:Int))),(26,(vI (k_20:Int)))]:SL_)) (λ(n_50:Nm)=>([(n_50,gB 4 Debt.enc v_48),(n_19,some (.cells 3 [(vS x_8.Player),(vI x_8.X),(vI x_8.Y)])),(n_32,some (.cells 9 [(vS x_22.Id),(vS x_22.Sender),(vI x_22.Kind),(vL eS x_22.Refs),(vI x_22.At),(vI x_22.Until),(vI x_22.Weight),(vL Rect.enc x_22.Areas),(vS x_22.Text)])),(n_35,some (.cells 4 [(vS x_8.Player),(vS x_22.Id),(vI (w64 (x_22.At+long_4))),(vI r_33)]))]:Hp)) (λ_=>True) ?_ ?_
       ·rcases ak h_49 with⟨hc_51,h_49⟩|⟨hc_51,h_49⟩
        ·refine aA rfl hc_51 (aa (ae (gV n_27 4 s_25) wz rfl (aF 0 3 il ft IL ag96 rfl rfl (.d (.agg (Debt.enc (⟨x_8.Player,x_22.Id,(w64 (x_22.At+long_4)),r_33⟩:Debt)))) rfl wz (dQ (([(⟨x_8.Player,x_22.Id,(w64 (x_22.At+long_4)),r_33⟩:Debt)]:List Debt).map Debt.enc) Lp ez92 rfl rfl rfl rfl rfl wz ?_))))
         obtain ⟨a_52,hz_53,h_49⟩:=bind_some h_49
         refine o7 0 il ft (i:=0) KU KU IL z96 rfl (by decide) by96 (by decide) (λ_=>rfl) rfl rfl rfl hz_53 wz (λn_54=>ae (gV n_54 4 a_52) wz rfl (ai ?_))
         obtain rfl:=ah h_49
         exact aZ n_54 trivial rfl (aJ rfl)
        ·refine ay rfl hc_51 (au ?_)
         obtain rfl:=ah h_49
         exact aZ n_27 trivial rfl (aJ rfl)
       ·rintro n_50 _ sl_ H_ hp_ hq_
        refine aN _ hp_ hq_ (aa (dX (bg hD_23 hn_24) wz rfl (ae (vI ((k_20+1:Nat):Int)) wz rfl (ai ?_))))
        obtain rfl:=ah hc_28
        exact aV (k_20+1,l_21,v_48,n_50) ⟨hL_29,aQ hD_23⟩ (ls_ _) rfl (aJ rfl)
   ·rintro ⟨s_25,n_27⟩ ho_ sl_ H_ hp_ hq_
    subst ho_
    refine aN _ hp_ hq_ (aa (dX (bg hD_9 hn_10) wz rfl (ae (vI ((k_6+1:Nat):Int)) wz rfl (ai ?_))))
    obtain rfl:=ah hc_15
    exact aV (k_6+1,l_7,s_25,n_27) ⟨hL_16,aQ hD_9⟩ (ls_ _) rfl (aJ rfl)
 ·rintro ⟨s_11,n_14⟩ ho_ sl_ H_ hp_ hq_
  subst ho_
  refine aN _ hp_ hq_ (af (aa (ae (gV n_14 4 s_11) wz rfl ?_)))
  obtain ⟨r_55,hr_56,hF⟩:=bind_some hF
  obtain ⟨_,hs_57,hF⟩:=bind_some hF
  replace hs_57:=rH hs_57
  refine qY 0 [] 0 0 il ft (oV hr_56) rfl hb105 rfl rfl rfl (by kernel_rfl) rfl (.inl rfl) rfl (by kernel_rfl) (by kernel_rfl) (by kernel_rfl) (by kernel_rfl) rfl (by decide) (by kernel_rfl) wy (BS hs_57) wz ([(n_14,gB 4 Debt.enc r_55)]:Hp) (by kernel_rfl) (dK (v':=(gV n_14 4 r_55)) 11 rfl (bU hs_57.symm) (dK (v':=(gV n_14 4 r_55)) 84 rfl (bU hs_57.symm) (ai (af (aa (ae (gV n_14 4 r_55) wz rfl (ae (gV n_14 4 r_55) wz rfl (ai (jv 0 rfl (gP 10 0 rfl rfl (gP 11 0 rfl rfl (gP 84 0 rfl rfl (gP 86 0 rfl rfl ?_)))))))))))))
  obtain rfl:=ah hF
  exact ax (aR (.inr rfl) [(vL Debt.enc r_55)] ⟨rfl,trivial⟩ rfl rfl rfl)
theorem zu {x_1:Receipt} {p_2:Post} {p_3:Alert} {p_4:Int} {r:Bool} (hF:jE x_1 p_2 p_3 p_4=some r) :
  FnM Tryz.prog 137 [(.d (.agg (Receipt.enc x_1))),(.ref (av 0) 0 0),(.ref (av 1) 0 0),(.ref (av 2) 0 0)] [(.cells 3 [(vS p_2.Player),(vI p_2.X),(vI p_2.Y)]),(.cells 9 [(vS p_3.Id),(vS p_3.Sender),(vI p_3.Kind),(vL eS p_3.Refs),(vI p_3.At),(vI p_3.Until),(vI p_3.Weight),(vL Rect.enc p_3.Areas),(vS p_3.Text)]),(.cells 1 [(vI p_4)])] (vB r) [some (.cells 3 [(vS p_2.Player),(vI p_2.X),(vI p_2.Y)]),some (.cells 9 [(vS p_3.Id),(vS p_3.Sender),(vI p_3.Kind),(vL eS p_3.Refs),(vI p_3.At),(vI p_3.Until),(vI p_3.Weight),(vL Rect.enc p_3.Areas),(vS p_3.Text)]),some (.cells 1 [(vI p_4)])]:=by
 refine FnM.of_wH ⟨Tryz.prog,28,[],[]⟩ rfl Tryz.func137 rfl rfl (lb_ rfl) (by kernel_rfl) ?_
 unfold jE at hF
 refine af (aa (dW 0 (.inl rfl) [(vS x_1.Player),(vS x_1.Alert),(vI x_1.At),(vB x_1.Seen)] rfl rfl wz (λn_5=>ae (vB false) wz rfl (ai (af ?_)))))
 obtain ⟨v_6,h_7,hF⟩:=bind_some hF
 refine aG (β:=Unit) (λ_=>([(5,(vB v_6))]:SL_)) (λ_=>([((av 0),some (.cells 3 [(vS p_2.Player),(vI p_2.X),(vI p_2.Y)])),((av 1),some (.cells 9 [(vS p_3.Id),(vS p_3.Sender),(vI p_3.Kind),(vL eS p_3.Refs),(vI p_3.At),(vI p_3.Until),(vI p_3.Weight),(vL Rect.enc p_3.Areas),(vS p_3.Text)])),((av 2),some (.cells 1 [(vI p_4)])),(n_5,some (.cells 4 [(vS x_1.Player),(vS x_1.Alert),(vI x_1.At),(vB x_1.Seen)]))]:Hp)) (λ_=>True) ?_ ?_
 ·refine aa (aI rZ rfl 0 rfl wz (aF 0 3 il ft sz9 ag9 rfl rfl (vS x_1.Player) rfl wz (aI mg rfl 0 rfl wz (aF 0 0 il ft sz9 ag9 rfl rfl (vS p_2.Player) rfl wz (ae (vB (sEq x_1.Player p_2.Player)) wz rfl ?_)))))
  rcases ak h_7 with⟨hc_8,h_7⟩|⟨hc_8,h_7⟩
  ·refine aC rfl hc_8 wz (aI sN rfl 1 rfl wa (aF 0 3 il ft sz9 ag9 rfl rfl (vS x_1.Alert) rfl wa (aI eD rfl 0 rfl wa (aF 0 1 il ft sz9 ag9 rfl rfl (vS p_3.Id) rfl wa (ae (vB (sEq x_1.Alert p_3.Id)) wa rfl (ae (vB (sEq x_1.Alert p_3.Id)) wz rfl ?_))))))
   rcases ak h_7 with⟨hc_9,h_7⟩|⟨hc_9,h_7⟩
   ·refine aC rfl hc_9 wz (aI BU rfl 3 rfl wa (aF 0 3 il ft sz4 ag4 rfl rfl (vB x_1.Seen) rfl wa (ae (vB x_1.Seen) wz rfl ?_)))
    rcases ak h_7 with⟨hc_10,h_7⟩|⟨hc_10,h_7⟩
    ·refine aC rfl hc_10 wz (aI nD rfl 2 rfl wa (aF 0 3 il ft sz3 ag3 rfl rfl (vI x_1.At) rfl wa (aF 0 2 il ft sz3 ag3 rfl rfl (vI p_4) rfl wa (ae (vB (decide (x_1.At<=p_4))) wa rfl (ae (vB (decide (x_1.At<=p_4))) wz rfl (ae (vB (decide (x_1.At<=p_4))) wz rfl (ai ?_)))))))
     obtain rfl:=ah h_7
     exact cu
    ·refine aC rfl hc_10 wz (aj wa (aj wa (aj wa (aj wa (ae (vB false) wz rfl (ae (vB false) wz rfl (ai ?_)))))))
     obtain rfl:=ah h_7
     exact cu
   ·refine aC rfl hc_9 wz (aj wa (aj wa (ae (vB false) wz rfl (ae (vB false) wz rfl (aj wa (aj wa (aj wa (aj wa (ae (vB false) wz rfl (ae (vB false) wz rfl (ai ?_)))))))))))
    obtain rfl:=ah h_7
    exact cu
  ·refine aC rfl hc_8 wz (aj wa (aj wa (aj wa (aj wa (aj wa (ae (vB false) wz rfl (ae (vB false) wz rfl (aj wa (aj wa (ae (vB false) wz rfl (ae (vB false) wz rfl (aj wa (aj wa (aj wa (aj wa (ae (vB false) wz rfl (ae (vB false) wz rfl (ai ?_))))))))))))))))))
   obtain rfl:=ah h_7
   exact cu
 ·rintro ⟨⟩ _ sl_ H_ hp_ hq_
  refine aN _ hp_ hq_ ?_
  obtain rfl:=ah hF
  exact ax (rW (.inr rfl) [(vB v_6)] _ [0,1,2] [av 0,av 1,av 2] ⟨rfl,trivial⟩ (.cons (gH rfl rfl) (.nil)) (by kernel_rfl) ⟨(by kernel_rfl),⟨(by kernel_rfl),⟨(by kernel_rfl),trivial⟩⟩⟩ (by decide) (by kernel_rfl))
theorem kK {s_1:(List Receipt)} {f_2:Receipt->Option Bool} {r:Int} {gid:FuncId} {caps:List V} {Sin:List Box} (hfn:∀x0 r,f_2 x0=some r->FnM Tryz.prog gid ([(.d (.agg (Receipt.enc x0)))]++caps) Sin (vB r) (Sin.map some)) (hbF:aH Tryz.prog gid=true) (hcapF:caps.flatMap frz=[]/\caps.map co0=caps) (hokF:okL Sin.length caps=true) (hsF:∀b∈Sin,b.ok Sin.length=true) (hmF:∀b∈Sin,b.mut=true) (hF:dI s_1 f_2=some r) :
  FnM Tryz.prog 192 [(vL Receipt.enc s_1),(.fn gid caps)] Sin (vI r) (Sin.map some):=by
 refine FnM.of_wH ⟨Tryz.prog,19,[],[]⟩ rfl Tryz.func192 rfl rfl (lb_ rfl) (by kernel_rfl) ?_
 unfold dI at hF
 refine af (aa (ae (vI 0) wz rfl (ai (af (af (aa (ae (vL Receipt.enc s_1) wz rfl (bN nE rfl wz (ae (vI 0) wz rfl (ai ?_))))))))))
 obtain ⟨o_11,hj_12,hF⟩:=bind_some hF
 obtain ⟨hn_7,hj_12⟩:=aU hj_12
 refine aG (β:=(Unit)) (λ(s_8:Unit)=>([]:SL_)) (λ(s_8:Unit)=>(mO 0 Sin)) (λp=>o_11 = .go p) ?_ ?_
 ·refine aD (bf (β:=Nat×(List Receipt)×(Unit)) (λp=>(λ(k_3:Nat) (l_4:List Receipt) (s_8:Unit)=>([(0,(vL Receipt.enc s_1)),(1,(.fn gid caps)),(7,(vI (s_1.length:Int))),(8,(vI (k_3:Int)))]:SL_)) p.1 p.2.1 p.2.2) (λp=>(λ(k_3:Nat) (l_4:List Receipt) (s_8:Unit)=>(mO 0 Sin)) p.1 p.2.1 p.2.2) (λp=>forR (λk x s=>dw f_2 k x s) p.2.1 p.1 p.2.2=some o_11/\(s_1).drop p.1=p.2.1) (λp=>p.2.1.length) (0,s_1,()) ⟨hj_12,rfl⟩ rfl (oL _) ?_)
  rintro ⟨k_3,l_4,s_8⟩ ⟨hL_10,hD_6⟩
  dsimp only at hL_10 hD_6
  cases l_4 with
  | nil =>
   obtain rfl:=ah hL_10
   refine af (aa (ae (vB (decide ((k_3:Int)<(s_1.length:Int)))) wz rfl (ai ?_)))
   refine af (ay rfl (drop_nil hD_6) (aW ?_))
   exact aZ (s_8) rfl rfl (oL _)
  | cons x_5 l_4 =>
   obtain ⟨c_,hc_9,hL_10⟩:=bind_some hL_10
   refine af (aa (ae (vB (decide ((k_3:Int)<(s_1.length:Int)))) wz rfl (ai ?_)))
   refine af (aA rfl (aY hD_6) (au ?_))
   unfold dw at hc_9
   refine af (aD (af (aa (ae (vI (k_3:Int)) wz rfl (ae (vI (k_3:Int)) wz rfl (ai (af (aa (ae (.fn gid caps) wz rfl (ae (vL Receipt.enc s_1) wz rfl (ae (vI (k_3:Int)) wz rfl (fU qQ rfl rfl (bz hD_6) rfl wz (dn jh oh rfl (.d (.agg (Receipt.enc x_5))) rfl wz ?_)))))))))))))
   obtain ⟨r_13,hr_14,hc_9⟩:=bind_some hc_9
   refine xB (hfn _ _ hr_14) rfl hbF rfl rfl hcapF hokF hsF hmF rfl wz rfl (ai ?_)
   rcases ak hc_9 with⟨hc_15,hc_9⟩|⟨hc_15,hc_9⟩
   ·refine aA rfl hc_15 (af (aa (ae (vI (k_3:Int)) wz rfl (ae (vI (k_3:Int)) wz rfl (ai ?_)))))
    obtain rfl:=ah hc_9
    obtain rfl:=ah hL_10
    obtain rfl:=ah hF
    exact ax (E8 hsF (.inr rfl) [(vI (k_3:Int))] ⟨rfl,trivial⟩ rfl rfl rfl)
   ·refine ay rfl hc_15 (au (aa (dX (bg hD_6 hn_7) wz rfl (ae (vI ((k_3+1:Nat):Int)) wz rfl (ai ?_)))))
    obtain rfl:=ah hc_9
    exact aV (k_3+1,l_4,()) ⟨hL_10,aQ hD_6⟩ (ls_ _) rfl (oL _)
 ·rintro s_8 ho_ sl_ H_ hp_ hq_
  subst ho_
  refine aN _ hp_ hq_ (af (aa (ae (vI (-1)) wz rfl (ai ?_))))
  obtain rfl:=ah hF
  exact ax (E8 hsF (.inr rfl) [(vI (-1))] ⟨rfl,trivial⟩ rfl rfl rfl)
theorem jY {s_1:(List Receipt)} {f_2:Receipt->Option Bool} {r:Bool} {gid:FuncId} {caps:List V} {Sin:List Box} (hfn:∀x0 r,f_2 x0=some r->FnM Tryz.prog gid ([(.d (.agg (Receipt.enc x0)))]++caps) Sin (vB r) (Sin.map some)) (hbF:aH Tryz.prog gid=true) (hcapF:caps.flatMap frz=[]/\caps.map co0=caps) (hokF:okL Sin.length caps=true) (hsF:∀b∈Sin,b.ok Sin.length=true) (hmF:∀b∈Sin,b.mut=true) (hF:bO s_1 f_2=some r) :
  FnM Tryz.prog 136 [(vL Receipt.enc s_1),(.fn gid caps)] Sin (vB r) (Sin.map some):=by
 refine FnM.of_wH ⟨Tryz.prog,9,[],[]⟩ rfl Tryz.func136 rfl rfl (lb_ rfl) (by kernel_rfl) ?_
 unfold bO at hF
 refine af (aa (ae (vB false) wz rfl (ai (af (aa (ae (vL Receipt.enc s_1) wz rfl (ae (.fn gid caps) wz rfl ?_)))))))
 obtain ⟨r_3,hr_4,hF⟩:=bind_some hF
 refine xB (kK (gid:=gid) (caps:=caps) (Sin:=Sin) hfn hbF hcapF hokF hsF hmF hr_4) rfl hb192 rfl rfl ⟨rfl,rfl⟩ (by simp [okL,okV,hokF]) hsF hmF rfl wz rfl (ae (vB (decide (r_3>=0))) wz rfl (ae (vB (decide (r_3>=0))) wz rfl (ai ?_)))
 obtain rfl:=ah hF
 exact ax (E8 hsF (.inr rfl) [(vB (decide (r_3>=0)))] ⟨rfl,trivial⟩ rfl rfl rfl)
theorem Dw {l_1:(List Alert)} {a_2:Alert} {atv_3:Int} {r:Bool} (hF:sH l_1 a_2 atv_3=some r) :
  FnM Tryz.prog 138 [(vL Alert.enc l_1),(.d (.agg (Alert.enc a_2))),(vI atv_3)] [] (vB r) []:=by
 refine FnM.of_wH ⟨Tryz.prog,23,[],[]⟩ rfl Tryz.func138 rfl rfl (lb_ rfl) (by kernel_rfl) ?_
 unfold sH at hF
 refine af (aa (dW 0 (.inl rfl) [(vS a_2.Id),(vS a_2.Sender),(vI a_2.Kind),(vL eS a_2.Refs),(vI a_2.At),(vI a_2.Until),(vI a_2.Weight),(vL Rect.enc a_2.Areas),(vS a_2.Text)] rfl rfl wz (λn_4=>ae (vB false) wz rfl (ai (af ?_)))))
 obtain ⟨v_5,h_6,hF⟩:=bind_some hF
 refine aG (β:=Unit) (λ_=>([(6,(vB v_5))]:SL_)) (λ_=>([(n_4,some (.cells 9 [(vS a_2.Id),(vS a_2.Sender),(vI a_2.Kind),(vL eS a_2.Refs),(vI a_2.At),(vI a_2.Until),(vI a_2.Weight),(vL Rect.enc a_2.Areas),(vS a_2.Text)]))]:Hp)) (λ_=>True) ?_ ?_
 ·refine aa (aI lQ rfl 2 rfl wz (aF 0 0 il ft sz3 ag3 rfl rfl (vI a_2.Kind) rfl wz (ae (vB (a_2.Kind != 3)) wz rfl ?_)))
  rcases ak h_6 with⟨hc_7,h_6⟩|⟨hc_7,h_6⟩
  ·refine aC rfl hc_7 wz (aI fq rfl 4 rfl wa (aF 0 0 il ft sz3 ag3 rfl rfl (vI a_2.At) rfl wa (ae (vI atv_3) wa rfl (ae (vB (decide (a_2.At<=atv_3))) wa rfl (ae (vB (decide (a_2.At<=atv_3))) wz rfl ?_)))))
   rcases ak h_6 with⟨hc_8,h_6⟩|⟨hc_8,h_6⟩
   ·refine aC rfl hc_8 wz (ae (vI atv_3) wa rfl (ae (vL Alert.enc l_1) wa rfl (aF 0 0 il ft dF fJ rfl rfl (.d (.agg (Alert.enc a_2))) rfl wa ?_)))
    obtain ⟨r_9,hr_10,h_6⟩:=bind_some h_6
    refine aB (vv hr_10) rfl Ls rfl rfl rfl rfl wa (ae (vB (decide (atv_3<r_9))) wa rfl (ae (vB (decide (atv_3<r_9))) wz rfl (ae (vB (decide (atv_3<r_9))) wz rfl (ai ?_))))
    obtain rfl:=ah h_6
    exact cu
   ·refine aC rfl hc_8 wz (aj wa (aj wa (aj wa (aj wa (aj wa (ae (vB false) wz rfl (ae (vB false) wz rfl (ai ?_))))))))
    obtain rfl:=ah h_6
    exact cu
  ·refine aC rfl hc_7 wz (aj wa (aj wa (aj wa (aj wa (ae (vB false) wz rfl (ae (vB false) wz rfl (aj wa (aj wa (aj wa (aj wa (aj wa (ae (vB false) wz rfl (ae (vB false) wz rfl (ai ?_))))))))))))))
   obtain rfl:=ah h_6
   exact cu
 ·rintro ⟨⟩ _ sl_ H_ hp_ hq_
  refine aN _ hp_ hq_ ?_
  obtain rfl:=ah hF
  exact ax (aR (.inr rfl) [(vB v_5)] ⟨rfl,trivial⟩ rfl rfl rfl)
theorem A8 {l_1:(List Alert)} {posts_2:(List Post)} {r_3:(List Receipt)} {wait_4:Int} {atv_5:Int} {r:(List ByteArray)} (hF:oN l_1 posts_2 r_3 wait_4 atv_5=some r) :
  FnM Tryz.prog 58 [(vL Alert.enc l_1),(vL Post.enc posts_2),(vL Receipt.enc r_3),(vI wait_4),(vI atv_5)] [] (vL eS r) []:=by
 refine FnM.of_wH ⟨Tryz.prog,67,[],[]⟩ rfl Tryz.func58 rfl rfl (lb_ rfl) (by kernel_rfl) ?_
 unfold oN at hF
 refine af (aa (dW 0 (.inl rfl) [(vI atv_5)] rfl rfl wz (λn_6=>ae .nil wz rfl (ai (af (aa (ae .nil wz rfl (ai (af (af (aa (ae (vL Alert.enc l_1) wz rfl (bN uT rfl wz (ae (vI 0) wz rfl (ai (rF (λn_13 => ?_)))))))))))))))))
 obtain ⟨o_18,hj_19,hF⟩:=bind_some hF
 obtain ⟨hn_11,hj_19⟩:=aU hj_19
 refine aG (β:=((List ByteArray))×Nm) (λp=>(λ(s_12:List ByteArray) (n_15:Nm)=>([(11,(gV n_15 1 s_12))]:SL_)) p.1 p.2) (λp=>(λ(s_12:List ByteArray) (n_15:Nm)=>([(n_6,some (.cells 1 [(vI atv_5)])),(n_15,gB 1 eS s_12)]:Hp)) p.1 p.2) (λp=>o_18 = .go p.1) ?_ ?_
 ·refine aD (bf (β:=Nat×(List Alert)×((List ByteArray))×Nm) (λp=>(λ(k_7:Nat) (l_8:List Alert) (s_12:List ByteArray) (n_15:Nm)=>([(0,(vL Alert.enc l_1)),(1,(vL Post.enc posts_2)),(2,(vL Receipt.enc r_3)),(3,(vI wait_4)),(9,(.ref n_6 0 0)),(11,(gV n_15 1 s_12)),(18,(vL Alert.enc l_1)),(19,(vI (l_1.length:Int))),(20,(vI (k_7:Int)))]:SL_)) p.1 p.2.1 p.2.2.1 p.2.2.2) (λp=>(λ(k_7:Nat) (l_8:List Alert) (s_12:List ByteArray) (n_15:Nm)=>([(n_6,some (.cells 1 [(vI atv_5)])),(n_15,gB 1 eS s_12)]:Hp)) p.1 p.2.1 p.2.2.1 p.2.2.2) (λp=>forR (λk x s=>jQ posts_2 r_3 atv_5 l_1 wait_4 k x s) p.2.1 p.1 p.2.2.1=some o_18/\(l_1).drop p.1=p.2.1) (λp=>p.2.1.length) (0,l_1,([]:List ByteArray),n_13) ⟨hj_19,rfl⟩ rfl (aJ rfl) ?_)
  rintro ⟨k_7,l_8,s_12,n_15⟩ ⟨hL_17,hD_10⟩
  dsimp only at hL_17 hD_10
  cases l_8 with
  | nil =>
   obtain rfl:=ah hL_17
   refine af (aa (ae (vB (decide ((k_7:Int)<(l_1.length:Int)))) wz rfl (ai ?_)))
   refine af (ay rfl (drop_nil hD_10) (aW ?_))
   exact aZ (s_12,n_15) rfl rfl (aJ rfl)
  | cons x_9 l_8 =>
   obtain ⟨c_,hc_16,hL_17⟩:=bind_some hL_17
   refine af (aa (ae (vB (decide ((k_7:Int)<(l_1.length:Int)))) wz rfl (ai ?_)))
   refine af (aA rfl (aY hD_10) (au ?_))
   unfold jQ at hc_16
   refine af (aD (af (aa (fU qJ rfl rfl (bz hD_10) rfl wz (dn dF fJ rfl (.d (.agg (Alert.enc x_9))) rfl wz (cK 0 (.inl rfl) yh rfl wz (λn_20=>dJ 0 il ft 2 dF rfl rfl [(vS x_9.Id),(vS x_9.Sender),(vI x_9.Kind),(vL eS x_9.Refs),(vI x_9.At),(vI x_9.Until),(vI x_9.Weight),(vL Rect.enc x_9.Areas),(vS x_9.Text)] rfl wz (ai (af (aa (ae (vB false) wz rfl (ae (vB false) wz rfl (ai (af (af (aa (ae (vL Post.enc posts_2) wz rfl (bN AY rfl wz (ae (vI 0) wz rfl (ai ?_))))))))))))))))))))
   obtain ⟨o_29,hj_30,hc_16⟩:=bind_some hc_16
   obtain ⟨hn_25,hj_30⟩:=aU hj_30
   refine aG (β:=(Bool×Bool)) (λ(s_26:Bool×Bool)=>([(0,(vL Alert.enc l_1)),(1,(vL Post.enc posts_2)),(2,(vL Receipt.enc r_3)),(3,(vI wait_4)),(9,(.ref n_6 0 0)),(11,(gV n_15 1 s_12)),(13,(.ref n_20 0 0)),(14,(vB s_26.1)),(15,(vB s_26.2)),(18,(vL Alert.enc l_1)),(19,(vI (l_1.length:Int))),(20,(vI (k_7:Int)))]:SL_)) (λ(s_26:Bool×Bool)=>([(n_6,some (.cells 1 [(vI atv_5)])),(n_15,gB 1 eS s_12),(n_20,some (.cells 9 [(vS x_9.Id),(vS x_9.Sender),(vI x_9.Kind),(vL eS x_9.Refs),(vI x_9.At),(vI x_9.Until),(vI x_9.Weight),(vL Rect.enc x_9.Areas),(vS x_9.Text)]))]:Hp)) (λp=>o_29 = .go p) ?_ ?_
   ·refine aD (bf (β:=Nat×(List Post)×(Bool×Bool)) (λp=>(λ(k_21:Nat) (l_22:List Post) (s_26:Bool×Bool)=>([(0,(vL Alert.enc l_1)),(1,(vL Post.enc posts_2)),(2,(vL Receipt.enc r_3)),(3,(vI wait_4)),(9,(.ref n_6 0 0)),(11,(gV n_15 1 s_12)),(13,(.ref n_20 0 0)),(14,(vB s_26.1)),(15,(vB s_26.2)),(18,(vL Alert.enc l_1)),(19,(vI (l_1.length:Int))),(20,(vI (k_7:Int))),(24,(vL Post.enc posts_2)),(25,(vI (posts_2.length:Int))),(26,(vI (k_21:Int)))]:SL_)) p.1 p.2.1 p.2.2) (λp=>(λ(k_21:Nat) (l_22:List Post) (s_26:Bool×Bool)=>([(n_6,some (.cells 1 [(vI atv_5)])),(n_15,gB 1 eS s_12),(n_20,some (.cells 9 [(vS x_9.Id),(vS x_9.Sender),(vI x_9.Kind),(vL eS x_9.Refs),(vI x_9.At),(vI x_9.Until),(vI x_9.Weight),(vL Rect.enc x_9.Areas),(vS x_9.Text)]))]:Hp)) p.1 p.2.1 p.2.2) (λp=>forR (λk x s=>lc x_9 r_3 atv_5 k x s) p.2.1 p.1 p.2.2=some o_29/\(posts_2).drop p.1=p.2.1) (λp=>p.2.1.length) (0,posts_2,(false,false)) ⟨hj_30,rfl⟩ rfl (aJ rfl) ?_)
    rintro ⟨k_21,l_22,s_26⟩ ⟨hL_28,hD_24⟩
    dsimp only at hL_28 hD_24
    cases l_22 with
    | nil =>
     obtain rfl:=ah hL_28
     refine af (aa (ae (vB (decide ((k_21:Int)<(posts_2.length:Int)))) wz rfl (ai ?_)))
     refine af (ay rfl (drop_nil hD_24) (aW ?_))
     exact aZ (s_26) rfl rfl (aJ rfl)
    | cons x_23 l_22 =>
     obtain ⟨c_,hc_27,hL_28⟩:=bind_some hL_28
     refine af (aa (ae (vB (decide ((k_21:Int)<(posts_2.length:Int)))) wz rfl (ai ?_)))
     refine af (aA rfl (aY hD_24) (au ?_))
     unfold lc at hc_27
     refine af (aD (af (aa (fU A9 rfl rfl (bz hD_24) rfl wz (dn pg vX rfl (.d (.agg (Post.enc x_23))) rfl wz (cK 0 (.inl rfl) z66 rfl wz (λn_31=>dJ 0 il ft 3 pg rfl rfl [(vS x_23.Player),(vI x_23.X),(vI x_23.Y)] rfl wz (ai (af (af (aa (aF 0 2 il ft dF fJ rfl rfl (.d (.agg (Alert.enc x_9))) rfl wz (aF 0 3 il ft pg vX rfl rfl (.d (.agg (Post.enc x_23))) rfl wz ?_)))))))))))))
     obtain ⟨r_32,hr_33,hc_27⟩:=bind_some hc_27
     refine aB (uJ hr_33) rfl hb135 rfl rfl rfl rfl wz (ae (vB (!r_32)) wz rfl (ai ?_))
     rcases ak hc_27 with⟨hc_34,hc_27⟩|⟨hc_34,hc_27⟩
     ·refine aA rfl hc_34 (aW (aa (dX (bg hD_24 hn_25) wz rfl (ae (vI ((k_21+1:Nat):Int)) wz rfl (ai ?_)))))
      obtain rfl:=ah hc_27
      exact aV (k_21+1,l_22,(s_26.1,s_26.2)) ⟨hL_28,aQ hD_24⟩ (ls_ _) rfl (aJ rfl)
     ·refine ay rfl hc_34 (au (af (aa (ae (vB true) wz rfl (ai ?_)))))
      obtain ⟨v_35,h_36,hc_27⟩:=bind_some hc_27
      refine aG (β:=Unit) (λ_=>([(0,(vL Alert.enc l_1)),(1,(vL Post.enc posts_2)),(2,(vL Receipt.enc r_3)),(3,(vI wait_4)),(9,(.ref n_6 0 0)),(11,(gV n_15 1 s_12)),(13,(.ref n_20 0 0)),(14,(vB true)),(15,(vB v_35)),(18,(vL Alert.enc l_1)),(19,(vI (l_1.length:Int))),(20,(vI (k_7:Int))),(24,(vL Post.enc posts_2)),(25,(vI (posts_2.length:Int))),(26,(vI (k_21:Int)))]:SL_)) (λ_=>([(n_6,some (.cells 1 [(vI atv_5)])),(n_15,gB 1 eS s_12),(n_20,some (.cells 9 [(vS x_9.Id),(vS x_9.Sender),(vI x_9.Kind),(vL eS x_9.Refs),(vI x_9.At),(vI x_9.Until),(vI x_9.Weight),(vL Rect.enc x_9.Areas),(vS x_9.Text)])),(n_31,some (.cells 3 [(vS x_23.Player),(vI x_23.X),(vI x_23.Y)]))]:Hp)) (λ_=>True) ?_ ?_
      ·refine aa (ae (vB s_26.2) wz rfl ?_)
       rcases ak h_36 with⟨hc_37,h_36⟩|⟨hc_37,h_36⟩
       ·refine aC rfl hc_37 wz (aj wa (aj wa (aj wa (ae (vB true) wz rfl (ae (vB true) wz rfl (ai ?_))))))
        obtain rfl:=ah h_36
        exact cu
       ·refine aC rfl hc_37 wz (ae (vL Receipt.enc r_3) wa rfl (ae (.fn 137 [(.ref n_31 0 0),(.ref n_20 0 0),(.ref n_6 0 0)]) wa rfl ?_))
        obtain ⟨r_38,hr_39,h_36⟩:=bind_some h_36
        refine aS 0 [3,2,0] il ft (jY (gid:=137) (caps:=[.ref (av 0) 0 0,.ref (av 1) 0 0,.ref (av 2) 0 0]) (Sin:=[(.cells 3 [(vS x_23.Player),(vI x_23.X),(vI x_23.Y)]),(.cells 9 [(vS x_9.Id),(vS x_9.Sender),(vI x_9.Kind),(vL eS x_9.Refs),(vI x_9.At),(vI x_9.Until),(vI x_9.Weight),(vL Rect.enc x_9.Areas),(vS x_9.Text)]),(.cells 1 [(vI atv_5)])]) (λ_ _ h_=>zu h_) hb137 ⟨rfl,rfl⟩ (by kernel_rfl) (yB (by kernel_rfl)) (uY (by kernel_rfl)) hr_39) rfl hb136 rfl (by kernel_rfl) (by kernel_rfl) (by kernel_rfl) (by kernel_rfl) (by kernel_rfl) (by kernel_rfl) (by kernel_rfl) (by decide) (by kernel_rfl) wa (vB r_38) (by kernel_rfl) ([(n_6,some (.cells 1 [(vI atv_5)])),(n_15,gB 1 eS s_12),(n_20,some (.cells 9 [(vS x_9.Id),(vS x_9.Sender),(vI x_9.Kind),(vL eS x_9.Refs),(vI x_9.At),(vI x_9.Until),(vI x_9.Weight),(vL Rect.enc x_9.Areas),(vS x_9.Text)])),(n_31,some (.cells 3 [(vS x_23.Player),(vI x_23.X),(vI x_23.Y)]))]:Hp) (by kernel_rfl) (ae (vB r_38) wz rfl (ae (vB r_38) wz rfl (ai ?_)))
        obtain rfl:=ah h_36
        exact cu
      ·rintro ⟨⟩ _ sl_ H_ hp_ hq_
       refine aN _ hp_ hq_ (aa (dX (bg hD_24 hn_25) wz rfl (ae (vI ((k_21+1:Nat):Int)) wz rfl (ai ?_))))
       obtain rfl:=ah hc_27
       exact aV (k_21+1,l_22,(true,v_35)) ⟨hL_28,aQ hD_24⟩ (ls_ _) rfl (aJ rfl)
   ·rintro s_26 ho_ sl_ H_ hp_ hq_
    subst ho_
    refine aN _ hp_ hq_ (af ?_)
    obtain ⟨v_41,h_42,hc_16⟩:=bind_some hc_16
    refine aG (β:=Unit) (λ_=>([(0,(vL Alert.enc l_1)),(1,(vL Post.enc posts_2)),(2,(vL Receipt.enc r_3)),(3,(vI wait_4)),(9,(.ref n_6 0 0)),(11,(gV n_15 1 s_12)),(13,(.ref n_20 0 0)),(18,(vL Alert.enc l_1)),(19,(vI (l_1.length:Int))),(20,(vI (k_7:Int))),(59,(vB v_41))]:SL_)) (λ_=>([(n_6,some (.cells 1 [(vI atv_5)])),(n_15,gB 1 eS s_12),(n_20,some (.cells 9 [(vS x_9.Id),(vS x_9.Sender),(vI x_9.Kind),(vL eS x_9.Refs),(vI x_9.At),(vI x_9.Until),(vI x_9.Weight),(vL Rect.enc x_9.Areas),(vS x_9.Text)]))]:Hp)) (λ_=>True) ?_ ?_
    ·refine aa (ae (vL Alert.enc l_1) wz rfl (aF 0 2 il ft dF fJ rfl rfl (.d (.agg (Alert.enc x_9))) rfl wz (aF 0 0 il ft sz3 ag3 rfl rfl (vI atv_5) rfl wz ?_)))
     obtain ⟨r_43,hr_44,h_42⟩:=bind_some h_42
     refine aB (Dw hr_44) rfl hb138 rfl rfl rfl rfl wz ?_
     rcases ak h_42 with⟨hc_45,h_42⟩|⟨hc_45,h_42⟩
     ·refine aC rfl hc_45 wz (aF 0 0 il ft sz3 ag3 rfl rfl (vI atv_5) rfl wa (aI fq rfl 4 rfl wa (aF 0 2 il ft sz3 ag3 rfl rfl (vI x_9.At) rfl wa (ae (vI (w64 (atv_5-x_9.At))) wa rfl (ae (vI wait_4) wa rfl (ae (vB (decide ((w64 (atv_5-x_9.At))>=wait_4))) wa rfl (ae (vB (decide ((w64 (atv_5-x_9.At))>=wait_4))) wz rfl ?_)))))))
      rcases ak h_42 with⟨hc_46,h_42⟩|⟨hc_46,h_42⟩
      ·refine aC rfl hc_46 wz (ae (vB s_26.1) wa rfl (ae (vB s_26.1) wz rfl ?_))
       rcases ak h_42 with⟨hc_47,h_42⟩|⟨hc_47,h_42⟩
       ·refine aC rfl hc_47 wz (ae (vB s_26.2) wa rfl (ae (vB (!s_26.2)) wa rfl (ae (vB (!s_26.2)) wz rfl (ai ?_))))
        obtain rfl:=ah h_42
        exact cu
       ·refine aC rfl hc_47 wz (aj wa (aj wa (ae (vB false) wz rfl (ai ?_))))
        obtain rfl:=ah h_42
        exact cu
      ·refine aC rfl hc_46 wz (aj wa (ae (vB false) wz rfl (ae (vB false) wz rfl (aj wa (aj wa (ae (vB false) wz rfl (ai ?_)))))))
       obtain rfl:=ah h_42
       exact cu
     ·refine aC rfl hc_45 wz (aj wa (aj wa (aj wa (aj wa (aj wa (aj wa (ae (vB false) wz rfl (ae (vB false) wz rfl (aj wa (ae (vB false) wz rfl (ae (vB false) wz rfl (aj wa (aj wa (ae (vB false) wz rfl (ai ?_)))))))))))))))
      obtain rfl:=ah h_42
      exact cu
    ·rintro ⟨⟩ _ sl_ H_ hp_ hq_
     refine aN _ hp_ hq_ ?_
     obtain ⟨v_48,h_49,hc_16⟩:=bind_some hc_16
     refine aG (β:=Nm) (λ(n_50:Nm)=>([(0,(vL Alert.enc l_1)),(1,(vL Post.enc posts_2)),(2,(vL Receipt.enc r_3)),(3,(vI wait_4)),(9,(.ref n_6 0 0)),(11,(gV n_50 1 v_48)),(18,(vL Alert.enc l_1)),(19,(vI (l_1.length:Int))),(20,(vI (k_7:Int)))]:SL_)) (λ(n_50:Nm)=>([(n_6,some (.cells 1 [(vI atv_5)])),(n_50,gB 1 eS v_48),(n_20,some (.cells 9 [(vS x_9.Id),(vS x_9.Sender),(vI x_9.Kind),(vL eS x_9.Refs),(vI x_9.At),(vI x_9.Until),(vI x_9.Weight),(vL Rect.enc x_9.Areas),(vS x_9.Text)]))]:Hp)) (λ_=>True) ?_ ?_
     ·rcases ak h_49 with⟨hc_51,h_49⟩|⟨hc_51,h_49⟩
      ·refine aA rfl hc_51 (aa (ae (gV n_15 1 s_12) wz rfl (aI eD rfl 0 rfl wz (aF 0 2 il ft sz9 ag9 rfl rfl (vS x_9.Id) rfl wz (dQ (([x_9.Id]:List ByteArray).map eS) jZ qp rfl rfl rfl rfl rfl wz ?_)))))
       obtain ⟨a_52,hz_53,h_49⟩:=bind_some h_49
       refine o7 0 il ft (i:=1) J9 J9 sz9 z9 rfl (by decide) by9 (by decide) (λ_=>rfl) rfl rfl rfl hz_53 wz (λn_54=>ae (gV n_54 1 a_52) wz rfl (ai ?_))
       obtain rfl:=ah h_49
       exact aZ n_54 trivial rfl (aJ rfl)
      ·refine ay rfl hc_51 (au ?_)
       obtain rfl:=ah h_49
       exact aZ n_15 trivial rfl (aJ rfl)
     ·rintro n_50 _ sl_ H_ hp_ hq_
      refine aN _ hp_ hq_ (aa (dX (bg hD_10 hn_11) wz rfl (ae (vI ((k_7+1:Nat):Int)) wz rfl (ai ?_))))
      obtain rfl:=ah hc_16
      exact aV (k_7+1,l_8,v_48,n_50) ⟨hL_17,aQ hD_10⟩ (ls_ _) rfl (aJ rfl)
 ·rintro ⟨s_12,n_15⟩ ho_ sl_ H_ hp_ hq_
  subst ho_
  refine aN _ hp_ hq_ (af (aa (ae (gV n_15 1 s_12) wz rfl (ae (gV n_15 1 s_12) wz rfl (ai (jv 1 rfl (gP 10 1 rfl rfl (gP 11 1 rfl rfl (gP 66 1 rfl rfl ?_)))))))))
  obtain rfl:=ah hF
  exact ax (aR (.inr rfl) [(vL eS s_12)] ⟨rfl,trivial⟩ rfl rfl rfl)
theorem DT {num_1:Int} {den_2:Int} {r:Fraction} (hF:nJ num_1 den_2=some r) :
  FnM Tryz.prog 139 [(vI num_1),(vI den_2)] [] (.d (.agg (Fraction.enc r))) []:=by
 refine FnM.of_wH ⟨Tryz.prog,26,[],[]⟩ rfl Tryz.func139 rfl rfl (lb_ rfl) (by kernel_rfl) ?_
 unfold nJ at hF
 refine af (aa (cK 0 (.inl rfl) IU rfl wz (λn_3=>ai (af (aa (ae (vI num_1) wz rfl (ae (vI den_2) wz rfl (ae (vI num_1) wz rfl (ae (vI den_2) wz rfl (ai (af ?_)))))))))))
 obtain ⟨o_12,hj_13,hF⟩:=bind_some hF
 obtain ⟨nq_24,hj_13⟩:=iR hj_13
 refine aG (β:=(Int×Int)) (λ(s_9:Int×Int)=>([(0,(vI num_1)),(1,(vI den_2)),(4,(.ref n_3 0 0)),(5,(vI s_9.1))]:SL_)) (λ(s_9:Int×Int)=>([(n_3,some (.cells 2 [(vI 0),(vI 0)]))]:Hp)) (λp=>o_12 = .go p) ?_ ?_
 ·refine aD (bf (β:=Nat×(Int×Int)) (λp=>(λ(k_4:Nat) (s_9:Int×Int)=>([(0,(vI num_1)),(1,(vI den_2)),(4,(.ref n_3 0 0)),(5,(vI s_9.1)),(6,(vI s_9.2))]:SL_)) p.1 p.2) (λp=>(λ(k_4:Nat) (s_9:Int×Int)=>([(n_3,some (.cells 2 [(vI 0),(vI 0)]))]:Hp)) p.1 p.2) (λp=>iterN (λs=>pO s) p.1 p.2=some o_12) (λp=>p.1) (nq_24,(num_1,den_2)) hj_13 rfl (aJ rfl) ?_)
  rintro ⟨k_4,s_9⟩ hL_11
  dsimp only at hL_11
  cases k_4 with
  | zero=>cases hL_11
  | succ k_4 =>
   obtain ⟨c_,hc_10,hL_11⟩:=bind_some hL_11
   unfold pO at hc_10
   refine af (af (aa (ae (vI s_9.2) wz rfl (ae (vB (s_9.2 != 0)) wz rfl (ai ?_)))))
   rcases ak hc_10 with⟨hc_14,hc_10⟩|⟨hc_14,hc_10⟩
   ·refine aA rfl hc_14 (au (aD (bR (ae (vI s_9.2) wz rfl (ae (vI s_9.1) wz rfl (ae (vI s_9.2) wz rfl ?_))))))
    obtain ⟨q_15,hz_16,hc_10⟩:=bind_some hc_10
    refine JD rfl rfl hz_16 wz (ae (vI s_9.2) wz rfl (ae (vI q_15) wz rfl (ai ?_)))
    obtain rfl:=ah hc_10
    exact aV (k_4,(s_9.2,q_15)) hL_11 (ls_ _) rfl (aJ rfl)
   ·refine ay rfl hc_14 (aW ?_)
    obtain rfl:=ah hc_10
    obtain rfl:=ah hL_11
    exact aZ ((s_9.1,s_9.2)) rfl rfl (aJ rfl)
 ·rintro s_9 ho_ sl_ H_ hp_ hq_
  subst ho_
  refine aN _ hp_ hq_ (af (af (aa (ae (vI s_9.1) wz rfl (ae (vB (decide (s_9.1<0))) wz rfl (ai ?_))))))
  obtain ⟨v_17,h_18,hF⟩:=bind_some hF
  refine aG (β:=Unit) (λ_=>([(0,(vI num_1)),(1,(vI den_2)),(4,(.ref n_3 0 0)),(5,(vI v_17))]:SL_)) (λ_=>([(n_3,some (.cells 2 [(vI 0),(vI 0)]))]:Hp)) (λ_=>True) ?_ ?_
  ·rcases ak h_18 with⟨hc_19,h_18⟩|⟨hc_19,h_18⟩
   ·refine aA rfl hc_19 (aa (ae (vI s_9.1) wz rfl (ae (vI (w64 (0-s_9.1))) wz rfl (ae (vI (w64 (0-s_9.1))) wz rfl (ai ?_)))))
    obtain rfl:=ah h_18
    exact cu
   ·refine ay rfl hc_19 (au ?_)
    obtain rfl:=ah h_18
    exact cu
  ·rintro ⟨⟩ _ sl_ H_ hp_ hq_
   refine aN _ hp_ hq_ (af (bR (ae (vI num_1) wz rfl (ae (vI v_17) wz rfl ?_))))
   obtain ⟨q_20,hz_21,hF⟩:=bind_some hF
   refine Gp rfl rfl hz_21 wz (ae (vI den_2) wz rfl (ae (vI v_17) wz rfl ?_))
   obtain ⟨q_22,hz_23,hF⟩:=bind_some hF
   refine Gp rfl rfl hz_23 wz (ae (.d (.agg (Fraction.enc (⟨q_20,q_22⟩:Fraction)))) wz (by kernel_rfl) (dJ 7 (.inr (by kernel_rfl)) (λ_ _ ag=>trivial) 0 ll rfl rfl [(vI q_20),(vI q_22)] rfl wz (ai ?_)))
   obtain rfl:=ah hF
   exact ax (aR (.inr rfl) [(.d (.agg (Fraction.enc (⟨q_20,q_22⟩:Fraction))))] ⟨⟨0,_,_,_,_,_,_,_,rfl,rfl,ll,vN,rfl⟩,trivial⟩ rfl rfl rfl)
theorem zx {l_1:(List Alert)} {posts_2:(List Post)} {r_3:(List Receipt)} {id_4:ByteArray} {atv_5:Int} {r:Fraction×Bool} (hF:lC l_1 posts_2 r_3 id_4 atv_5=some r) :
  FnM Tryz.prog 59 [(vL Alert.enc l_1),(vL Post.enc posts_2),(vL Receipt.enc r_3),(vS id_4),(vI atv_5)] [] (.tup [(.d (.agg (Fraction.enc r.1))),(vB r.2)]) []:=by
 refine FnM.of_wH ⟨Tryz.prog,60,[],[]⟩ rfl Tryz.func59 rfl rfl (lb_ rfl) (by kernel_rfl) ?_
 unfold lC at hF
 refine af (aa (cK 0 (.inl rfl) IU rfl wz (λn_6=>ae (vB false) wz rfl (ai (af (aa (ae (vI 0) wz rfl (ae (vI 0) wz rfl (ai (af (af (aa (ae (vL Alert.enc l_1) wz rfl (bN uT rfl wz (ae (vI 0) wz rfl (ai ?_))))))))))))))))
 obtain ⟨o_15,hj_16,hF⟩:=bind_some hF
 obtain ⟨hn_11,hj_16⟩:=aU hj_16
 refine aG (β:=(Int×Int)) (λ(s_12:Int×Int)=>([(10,(.ref n_6 0 0)),(12,(vI s_12.1)),(13,(vI s_12.2))]:SL_)) (λ(s_12:Int×Int)=>([(n_6,some (.cells 2 [(vI 0),(vI 0)]))]:Hp)) (λp=>o_15 = .go p) ?_ ?_
 ·refine aD (bf (β:=Nat×(List Alert)×(Int×Int)) (λp=>(λ(k_7:Nat) (l_8:List Alert) (s_12:Int×Int)=>([(0,(vL Alert.enc l_1)),(1,(vL Post.enc posts_2)),(2,(vL Receipt.enc r_3)),(3,(vS id_4)),(4,(vI atv_5)),(10,(.ref n_6 0 0)),(12,(vI s_12.1)),(13,(vI s_12.2)),(18,(vL Alert.enc l_1)),(19,(vI (l_1.length:Int))),(20,(vI (k_7:Int)))]:SL_)) p.1 p.2.1 p.2.2) (λp=>(λ(k_7:Nat) (l_8:List Alert) (s_12:Int×Int)=>([(n_6,some (.cells 2 [(vI 0),(vI 0)]))]:Hp)) p.1 p.2.1 p.2.2) (λp=>forR (λk x s=>iT posts_2 id_4 l_1 atv_5 r_3 k x s) p.2.1 p.1 p.2.2=some o_15/\(l_1).drop p.1=p.2.1) (λp=>p.2.1.length) (0,l_1,(0,0)) ⟨hj_16,rfl⟩ rfl (aJ rfl) ?_)
  rintro ⟨k_7,l_8,s_12⟩ ⟨hL_14,hD_10⟩
  dsimp only at hL_14 hD_10
  cases l_8 with
  | nil =>
   obtain rfl:=ah hL_14
   refine af (aa (ae (vB (decide ((k_7:Int)<(l_1.length:Int)))) wz rfl (ai ?_)))
   refine af (ay rfl (drop_nil hD_10) (aW ?_))
   exact aZ (s_12) rfl rfl (aJ rfl)
  | cons x_9 l_8 =>
   obtain ⟨c_,hc_13,hL_14⟩:=bind_some hL_14
   refine af (aa (ae (vB (decide ((k_7:Int)<(l_1.length:Int)))) wz rfl (ai ?_)))
   refine af (aA rfl (aY hD_10) (au ?_))
   unfold iT at hc_13
   refine af (aD (af (aa (fU qJ rfl rfl (bz hD_10) rfl wz (dn dF fJ rfl (.d (.agg (Alert.enc x_9))) rfl wz (cK 0 (.inl rfl) yh rfl wz (λn_17=>dJ 0 il ft 1 dF rfl rfl [(vS x_9.Id),(vS x_9.Sender),(vI x_9.Kind),(vL eS x_9.Refs),(vI x_9.At),(vI x_9.Until),(vI x_9.Weight),(vL Rect.enc x_9.Areas),(vS x_9.Text)] rfl wz (ai (af (aa (ae (vL Post.enc posts_2) wz rfl (bN AY rfl wz (ae (vI 0) wz rfl (ai ?_))))))))))))))
   obtain ⟨o_26,hj_27,hc_13⟩:=bind_some hc_13
   obtain ⟨hn_22,hj_27⟩:=aU hj_27
   refine aG (β:=(Int×Int)) (λ(s_23:Int×Int)=>([(0,(vL Alert.enc l_1)),(1,(vL Post.enc posts_2)),(2,(vL Receipt.enc r_3)),(3,(vS id_4)),(4,(vI atv_5)),(10,(.ref n_6 0 0)),(12,(vI s_23.1)),(13,(vI s_23.2)),(18,(vL Alert.enc l_1)),(19,(vI (l_1.length:Int))),(20,(vI (k_7:Int)))]:SL_)) (λ(s_23:Int×Int)=>([(n_6,some (.cells 2 [(vI 0),(vI 0)])),(n_17,some (.cells 9 [(vS x_9.Id),(vS x_9.Sender),(vI x_9.Kind),(vL eS x_9.Refs),(vI x_9.At),(vI x_9.Until),(vI x_9.Weight),(vL Rect.enc x_9.Areas),(vS x_9.Text)]))]:Hp)) (λp=>o_26 = .go p) ?_ ?_
   ·refine aD (bf (β:=Nat×(List Post)×(Int×Int)) (λp=>(λ(k_18:Nat) (l_19:List Post) (s_23:Int×Int)=>([(0,(vL Alert.enc l_1)),(1,(vL Post.enc posts_2)),(2,(vL Receipt.enc r_3)),(3,(vS id_4)),(4,(vI atv_5)),(10,(.ref n_6 0 0)),(12,(vI s_23.1)),(13,(vI s_23.2)),(15,(.ref n_17 0 0)),(18,(vL Alert.enc l_1)),(19,(vI (l_1.length:Int))),(20,(vI (k_7:Int))),(24,(vL Post.enc posts_2)),(25,(vI (posts_2.length:Int))),(26,(vI (k_18:Int)))]:SL_)) p.1 p.2.1 p.2.2) (λp=>(λ(k_18:Nat) (l_19:List Post) (s_23:Int×Int)=>([(n_6,some (.cells 2 [(vI 0),(vI 0)])),(n_17,some (.cells 9 [(vS x_9.Id),(vS x_9.Sender),(vI x_9.Kind),(vL eS x_9.Refs),(vI x_9.At),(vI x_9.Until),(vI x_9.Weight),(vL Rect.enc x_9.Areas),(vS x_9.Text)]))]:Hp)) p.1 p.2.1 p.2.2) (λp=>forR (λk x s=>iH x_9 id_4 l_1 atv_5 r_3 k x s) p.2.1 p.1 p.2.2=some o_26/\(posts_2).drop p.1=p.2.1) (λp=>p.2.1.length) (0,posts_2,(s_12.1,s_12.2)) ⟨hj_27,rfl⟩ rfl (aJ rfl) ?_)
    rintro ⟨k_18,l_19,s_23⟩ ⟨hL_25,hD_21⟩
    dsimp only at hL_25 hD_21
    cases l_19 with
    | nil =>
     obtain rfl:=ah hL_25
     refine af (aa (ae (vB (decide ((k_18:Int)<(posts_2.length:Int)))) wz rfl (ai ?_)))
     refine af (ay rfl (drop_nil hD_21) (aW ?_))
     exact aZ (s_23) rfl rfl (aJ rfl)
    | cons x_20 l_19 =>
     obtain ⟨c_,hc_24,hL_25⟩:=bind_some hL_25
     refine af (aa (ae (vB (decide ((k_18:Int)<(posts_2.length:Int)))) wz rfl (ai ?_)))
     refine af (aA rfl (aY hD_21) (au ?_))
     unfold iH at hc_24
     refine af (aD (af (aa (fU A9 rfl rfl (bz hD_21) rfl wz (dn pg vX rfl (.d (.agg (Post.enc x_20))) rfl wz (cK 0 (.inl rfl) z66 rfl wz (λn_28=>dJ 0 il ft 2 pg rfl rfl [(vS x_20.Player),(vI x_20.X),(vI x_20.Y)] rfl wz (ai (af ?_)))))))))
     obtain ⟨v_29,h_30,hc_24⟩:=bind_some hc_24
     refine aG (β:=Unit) (λ_=>([(0,(vL Alert.enc l_1)),(1,(vL Post.enc posts_2)),(2,(vL Receipt.enc r_3)),(3,(vS id_4)),(4,(vI atv_5)),(10,(.ref n_6 0 0)),(12,(vI s_23.1)),(13,(vI s_23.2)),(15,(.ref n_17 0 0)),(17,(.ref n_28 0 0)),(18,(vL Alert.enc l_1)),(19,(vI (l_1.length:Int))),(20,(vI (k_7:Int))),(24,(vL Post.enc posts_2)),(25,(vI (posts_2.length:Int))),(26,(vI (k_18:Int))),(40,(vB v_29))]:SL_)) (λ_=>([(n_6,some (.cells 2 [(vI 0),(vI 0)])),(n_17,some (.cells 9 [(vS x_9.Id),(vS x_9.Sender),(vI x_9.Kind),(vL eS x_9.Refs),(vI x_9.At),(vI x_9.Until),(vI x_9.Weight),(vL Rect.enc x_9.Areas),(vS x_9.Text)])),(n_28,some (.cells 3 [(vS x_20.Player),(vI x_20.X),(vI x_20.Y)]))]:Hp)) (λ_=>True) ?_ ?_
     ·refine aa (aI eD rfl 0 rfl wz (aF 0 1 il ft sz9 ag9 rfl rfl (vS x_9.Id) rfl wz (ae (vS id_4) wz rfl (ae (vB (sEq x_9.Id id_4)) wz rfl ?_))))
      rcases ak h_30 with⟨hc_31,h_30⟩|⟨hc_31,h_30⟩
      ·refine aC rfl hc_31 wz (ae (vL Alert.enc l_1) wa rfl (aF 0 1 il ft dF fJ rfl rfl (.d (.agg (Alert.enc x_9))) rfl wa (aF 0 2 il ft pg vX rfl rfl (.d (.agg (Post.enc x_20))) rfl wa (ae (vI atv_5) wa rfl ?_))))
       obtain ⟨r_32,hr_33,h_30⟩:=bind_some h_30
       refine aB (xX hr_33) rfl hb132 rfl rfl rfl rfl wa (ae (vB r_32) wz rfl (ai ?_))
       obtain rfl:=ah h_30
       exact cu
      ·refine aC rfl hc_31 wz (aj wa (aj wa (aj wa (aj wa (aj wa (ae (vB false) wz rfl (ai ?_)))))))
       obtain rfl:=ah h_30
       exact cu
     ·rintro ⟨⟩ _ sl_ H_ hp_ hq_
      refine aN _ hp_ hq_ ?_
      obtain ⟨v_34,h_35,hc_24⟩:=bind_some hc_24
      refine aG (β:=Unit) (λ_=>([(0,(vL Alert.enc l_1)),(1,(vL Post.enc posts_2)),(2,(vL Receipt.enc r_3)),(3,(vS id_4)),(4,(vI atv_5)),(10,(.ref n_6 0 0)),(12,(vI v_34.1)),(13,(vI v_34.2)),(15,(.ref n_17 0 0)),(18,(vL Alert.enc l_1)),(19,(vI (l_1.length:Int))),(20,(vI (k_7:Int))),(24,(vL Post.enc posts_2)),(25,(vI (posts_2.length:Int))),(26,(vI (k_18:Int)))]:SL_)) (λ_=>([(n_6,some (.cells 2 [(vI 0),(vI 0)])),(n_17,some (.cells 9 [(vS x_9.Id),(vS x_9.Sender),(vI x_9.Kind),(vL eS x_9.Refs),(vI x_9.At),(vI x_9.Until),(vI x_9.Weight),(vL Rect.enc x_9.Areas),(vS x_9.Text)])),(n_28,some (.cells 3 [(vS x_20.Player),(vI x_20.X),(vI x_20.Y)]))]:Hp)) (λ_=>True) ?_ ?_
      ·rcases ak h_35 with⟨hc_36,h_35⟩|⟨hc_36,h_35⟩
       ·refine aA rfl hc_36 (af (aa (ae (vI s_23.2) wz rfl (ae (vI (w64 (s_23.2+1))) wz rfl (ae (vI (w64 (s_23.2+1))) wz rfl (ai (af (aa (ae (vL Receipt.enc r_3) wz rfl (aI mg rfl 0 rfl wz (aF 0 2 il ft sz9 ag9 rfl rfl (vS x_20.Player) rfl wz (ae (vS id_4) wz rfl (ae (vI atv_5) wz rfl ?_)))))))))))))
        obtain ⟨r_37,hr_38,h_35⟩:=bind_some h_35
        refine aB (Cw hr_38) rfl hb131 rfl rfl rfl rfl wz (ae (vB (decide (r_37>=0))) wz rfl (ai ?_))
        rcases ak h_35 with⟨hc_39,h_35⟩|⟨hc_39,h_35⟩
        ·refine aA rfl hc_39 (aa (ae (vI s_23.1) wz rfl (ae (vI (w64 (s_23.1+1))) wz rfl (ae (vI (w64 (s_23.1+1))) wz rfl (ai ?_)))))
         obtain rfl:=ah h_35
         exact cu
        ·refine ay rfl hc_39 (au ?_)
         obtain rfl:=ah h_35
         exact cu
       ·refine ay rfl hc_36 (au ?_)
        obtain rfl:=ah h_35
        exact cu
      ·rintro ⟨⟩ _ sl_ H_ hp_ hq_
       refine aN _ hp_ hq_ (aa (dX (bg hD_21 hn_22) wz rfl (ae (vI ((k_18+1:Nat):Int)) wz rfl (ai ?_))))
       obtain rfl:=ah hc_24
       exact aV (k_18+1,l_19,(v_34.1,v_34.2)) ⟨hL_25,aQ hD_21⟩ (ls_ _) rfl (aJ rfl)
   ·rintro s_23 ho_ sl_ H_ hp_ hq_
    subst ho_
    refine aN _ hp_ hq_ (aa (dX (bg hD_10 hn_11) wz rfl (ae (vI ((k_7+1:Nat):Int)) wz rfl (ai ?_))))
    obtain rfl:=ah hc_13
    exact aV (k_7+1,l_8,(s_23.1,s_23.2)) ⟨hL_14,aQ hD_10⟩ (ls_ _) rfl (aJ rfl)
 ·rintro s_12 ho_ sl_ H_ hp_ hq_
  subst ho_
  refine aN _ hp_ hq_ (af (af (aa (ae (vI s_12.2) wz rfl (ae (vB (s_12.2==0)) wz rfl (ai ?_))))))
  rcases ak hF with⟨hc_40,hF⟩|⟨hc_40,hF⟩
  ·refine aA rfl hc_40 (af (aa (ae (.d (.agg (Fraction.enc (⟨0,0⟩:Fraction)))) wz (by kernel_rfl) (dJ 0 il ft 0 ll rfl rfl [(vI 0),(vI 0)] rfl wz (ae (vB false) wz rfl (ai ?_))))))
   obtain rfl:=ah hF
   exact ax (aR (.inr rfl) [(.d (.agg (Fraction.enc (⟨0,0⟩:Fraction)))),(vB false)] ⟨⟨0,_,_,_,_,_,_,_,rfl,rfl,ll,vN,rfl⟩,⟨rfl,trivial⟩⟩ rfl rfl rfl)
  ·refine ay rfl hc_40 (au (af (aa (ae (vI s_12.1) wz rfl (ae (vI s_12.2) wz rfl ?_)))))
   obtain ⟨r_41,hr_42,hF⟩:=bind_some hF
   refine aB (DT hr_42) rfl hb139 rfl rfl rfl rfl wz (dJ 0 il ft 0 ll rfl rfl [(vI r_41.Num),(vI r_41.Den)] rfl wz (ae (vB true) wz rfl (ai ?_)))
   obtain rfl:=ah hF
   exact ax (aR (.inr rfl) [(.d (.agg (Fraction.enc r_41))),(vB true)] ⟨⟨0,_,_,_,_,_,_,_,rfl,rfl,ll,vN,rfl⟩,⟨rfl,trivial⟩⟩ rfl rfl rfl)
theorem lV {s1_1:(List Receipt)} {s2_2:(List Receipt)} {r:Bool} (hF:dx s1_1 s2_2=some r) :
  FnM Tryz.prog 60 [(vL Receipt.enc s1_1),(vL Receipt.enc s2_2)] [] (vB r) []:=by
 refine FnM.of_wH ⟨Tryz.prog,26,[],[]⟩ rfl Tryz.func60 rfl rfl (lb_ rfl) (by kernel_rfl) ?_
 unfold dx at hF
 refine af (aa (ae (vB false) wz rfl (ai (af (af (aa (ae (vL Receipt.enc s1_1) wz rfl (bN nE rfl wz (ae (vL Receipt.enc s2_2) wz rfl (bN nE rfl wz (ae (vB ((s1_1.length:Int) != (s2_2.length:Int))) wz rfl (ai ?_))))))))))))
 rcases ak hF with⟨hc_3,hF⟩|⟨hc_3,hF⟩
 ·refine aA rfl hc_3 (af (aa (ae (vB false) wz rfl (ai ?_))))
  obtain rfl:=ah hF
  exact ax (aR (.inr rfl) [(vB false)] ⟨rfl,trivial⟩ rfl rfl rfl)
 ·refine ay rfl hc_3 (au (af (af (aa (ae (vL Receipt.enc s1_1) wz rfl (bN nE rfl wz (ae (vI 0) wz rfl (ai ?_))))))))
  obtain ⟨o_12,hj_13,hF⟩:=bind_some hF
  obtain ⟨hn_8,hj_13⟩:=aU hj_13
  refine aG (β:=(Unit)) (λ(s_9:Unit)=>([]:SL_)) (λ(s_9:Unit)=>([]:Hp)) (λp=>o_12 = .go p) ?_ ?_
  ·refine aD (bf (β:=Nat×(List Receipt)×(Unit)) (λp=>(λ(k_4:Nat) (l_5:List Receipt) (s_9:Unit)=>([(0,(vL Receipt.enc s1_1)),(1,(vL Receipt.enc s2_2)),(12,(vI (s1_1.length:Int))),(13,(vI (k_4:Int)))]:SL_)) p.1 p.2.1 p.2.2) (λp=>(λ(k_4:Nat) (l_5:List Receipt) (s_9:Unit)=>([]:Hp)) p.1 p.2.1 p.2.2) (λp=>forR (λk x s=>bH s2_2 k x s) p.2.1 p.1 p.2.2=some o_12/\(s1_1).drop p.1=p.2.1) (λp=>p.2.1.length) (0,s1_1,()) ⟨hj_13,rfl⟩ rfl (aJ rfl) ?_)
   rintro ⟨k_4,l_5,s_9⟩ ⟨hL_11,hD_7⟩
   dsimp only at hL_11 hD_7
   cases l_5 with
   | nil =>
    obtain rfl:=ah hL_11
    refine af (aa (ae (vB (decide ((k_4:Int)<(s1_1.length:Int)))) wz rfl (ai ?_)))
    refine af (ay rfl (drop_nil hD_7) (aW ?_))
    exact aZ (s_9) rfl rfl (aJ rfl)
   | cons x_6 l_5 =>
    obtain ⟨c_,hc_10,hL_11⟩:=bind_some hL_11
    refine af (aa (ae (vB (decide ((k_4:Int)<(s1_1.length:Int)))) wz rfl (ai ?_)))
    refine af (aA rfl (aY hD_7) (au ?_))
    unfold bH at hc_10
    refine af (aD (af (aa (ae (vI (k_4:Int)) wz rfl (ae (vI (k_4:Int)) wz rfl (ai (af (bR (ae (vL Receipt.enc s1_1) wz rfl (ae (vI (k_4:Int)) wz rfl (fU qQ rfl rfl (bz hD_7) rfl wz (dn jh oh rfl (.d (.agg (Receipt.enc x_6))) rfl wz (ae (vL Receipt.enc s2_2) wz rfl (ae (vI (k_4:Int)) wz rfl ?_))))))))))))))
    obtain ⟨y_14,hy_15,hc_10⟩:=bind_some hc_10
    refine fU qQ rfl rfl hy_15 rfl wz (dn jh oh rfl (.d (.agg (Receipt.enc y_14))) rfl wz (ae (vB (!((x_6.Player.toList==y_14.Player.toList)&&((x_6.Alert.toList==y_14.Alert.toList)&&((x_6.At==y_14.At)&&((x_6.Seen==y_14.Seen)&&true)))))) wz (by kernel_rfl) (ai ?_)))
    rcases ak hc_10 with⟨hc_16,hc_10⟩|⟨hc_16,hc_10⟩
    ·refine aA rfl hc_16 (af (aa (ae (vB false) wz rfl (ai ?_))))
     obtain rfl:=ah hc_10
     obtain rfl:=ah hL_11
     obtain rfl:=ah hF
     exact ax (aR (.inr rfl) [(vB false)] ⟨rfl,trivial⟩ rfl rfl rfl)
    ·refine ay rfl hc_16 (au (aa (dX (bg hD_7 hn_8) wz rfl (ae (vI ((k_4+1:Nat):Int)) wz rfl (ai ?_)))))
     obtain rfl:=ah hc_10
     exact aV (k_4+1,l_5,()) ⟨hL_11,aQ hD_7⟩ (ls_ _) rfl (aJ rfl)
  ·rintro s_9 ho_ sl_ H_ hp_ hq_
   subst ho_
   refine aN _ hp_ hq_ (af (aa (ae (vB true) wz rfl (ai ?_))))
   obtain rfl:=ah hF
   exact ax (aR (.inr rfl) [(vB true)] ⟨rfl,trivial⟩ rfl rfl rfl)
theorem nX {s1_1:(List Debt)} {s2_2:(List Debt)} {r:Bool} (hF:d9 s1_1 s2_2=some r) :
  FnM Tryz.prog 61 [(vL Debt.enc s1_1),(vL Debt.enc s2_2)] [] (vB r) []:=by
 refine FnM.of_wH ⟨Tryz.prog,26,[],[]⟩ rfl Tryz.func61 rfl rfl (lb_ rfl) (by kernel_rfl) ?_
 unfold d9 at hF
 refine af (aa (ae (vB false) wz rfl (ai (af (af (aa (ae (vL Debt.enc s1_1) wz rfl (bN un92 rfl wz (ae (vL Debt.enc s2_2) wz rfl (bN un92 rfl wz (ae (vB ((s1_1.length:Int) != (s2_2.length:Int))) wz rfl (ai ?_))))))))))))
 rcases ak hF with⟨hc_3,hF⟩|⟨hc_3,hF⟩
 ·refine aA rfl hc_3 (af (aa (ae (vB false) wz rfl (ai ?_))))
  obtain rfl:=ah hF
  exact ax (aR (.inr rfl) [(vB false)] ⟨rfl,trivial⟩ rfl rfl rfl)
 ·refine ay rfl hc_3 (au (af (af (aa (ae (vL Debt.enc s1_1) wz rfl (bN un92 rfl wz (ae (vI 0) wz rfl (ai ?_))))))))
  obtain ⟨o_12,hj_13,hF⟩:=bind_some hF
  obtain ⟨hn_8,hj_13⟩:=aU hj_13
  refine aG (β:=(Unit)) (λ(s_9:Unit)=>([]:SL_)) (λ(s_9:Unit)=>([]:Hp)) (λp=>o_12 = .go p) ?_ ?_
  ·refine aD (bf (β:=Nat×(List Debt)×(Unit)) (λp=>(λ(k_4:Nat) (l_5:List Debt) (s_9:Unit)=>([(0,(vL Debt.enc s1_1)),(1,(vL Debt.enc s2_2)),(12,(vI (s1_1.length:Int))),(13,(vI (k_4:Int)))]:SL_)) p.1 p.2.1 p.2.2) (λp=>(λ(k_4:Nat) (l_5:List Debt) (s_9:Unit)=>([]:Hp)) p.1 p.2.1 p.2.2) (λp=>forR (λk x s=>bZ s2_2 k x s) p.2.1 p.1 p.2.2=some o_12/\(s1_1).drop p.1=p.2.1) (λp=>p.2.1.length) (0,s1_1,()) ⟨hj_13,rfl⟩ rfl (aJ rfl) ?_)
   rintro ⟨k_4,l_5,s_9⟩ ⟨hL_11,hD_7⟩
   dsimp only at hL_11 hD_7
   cases l_5 with
   | nil =>
    obtain rfl:=ah hL_11
    refine af (aa (ae (vB (decide ((k_4:Int)<(s1_1.length:Int)))) wz rfl (ai ?_)))
    refine af (ay rfl (drop_nil hD_7) (aW ?_))
    exact aZ (s_9) rfl rfl (aJ rfl)
   | cons x_6 l_5 =>
    obtain ⟨c_,hc_10,hL_11⟩:=bind_some hL_11
    refine af (aa (ae (vB (decide ((k_4:Int)<(s1_1.length:Int)))) wz rfl (ai ?_)))
    refine af (aA rfl (aY hD_7) (au ?_))
    unfold bZ at hc_10
    refine af (aD (af (aa (ae (vI (k_4:Int)) wz rfl (ae (vI (k_4:Int)) wz rfl (ai (af (bR (ae (vL Debt.enc s1_1) wz rfl (ae (vI (k_4:Int)) wz rfl (fU Lp rfl rfl (bz hD_7) rfl wz (dn IL ag96 rfl (.d (.agg (Debt.enc x_6))) rfl wz (ae (vL Debt.enc s2_2) wz rfl (ae (vI (k_4:Int)) wz rfl ?_))))))))))))))
    obtain ⟨y_14,hy_15,hc_10⟩:=bind_some hc_10
    refine fU Lp rfl rfl hy_15 rfl wz (dn IL ag96 rfl (.d (.agg (Debt.enc y_14))) rfl wz (ae (vB (!((x_6.Player.toList==y_14.Player.toList)&&((x_6.Alert.toList==y_14.Alert.toList)&&((x_6.Due==y_14.Due)&&((x_6.Got==y_14.Got)&&true)))))) wz (by kernel_rfl) (ai ?_)))
    rcases ak hc_10 with⟨hc_16,hc_10⟩|⟨hc_16,hc_10⟩
    ·refine aA rfl hc_16 (af (aa (ae (vB false) wz rfl (ai ?_))))
     obtain rfl:=ah hc_10
     obtain rfl:=ah hL_11
     obtain rfl:=ah hF
     exact ax (aR (.inr rfl) [(vB false)] ⟨rfl,trivial⟩ rfl rfl rfl)
    ·refine ay rfl hc_16 (au (aa (dX (bg hD_7 hn_8) wz rfl (ae (vI ((k_4+1:Nat):Int)) wz rfl (ai ?_)))))
     obtain rfl:=ah hc_10
     exact aV (k_4+1,l_5,()) ⟨hL_11,aQ hD_7⟩ (ls_ _) rfl (aJ rfl)
  ·rintro s_9 ho_ sl_ H_ hp_ hq_
   subst ho_
   refine aN _ hp_ hq_ (af (aa (ae (vB true) wz rfl (ai ?_))))
   obtain rfl:=ah hF
   exact ax (aR (.inr rfl) [(vB true)] ⟨rfl,trivial⟩ rfl rfl rfl)
theorem zY {a_1:Alert} {p_2:Post} {r:Bool×Int} (hF:nk a_1 p_2=some r) :
  FnM Tryz.prog 45 [(.d (.agg (Alert.enc a_1))),(.d (.agg (Post.enc p_2)))] [] (.tup [(vB r.1),(vI r.2)]) []:=by
 refine FnM.of_wH ⟨Tryz.prog,18,[],[]⟩ rfl Tryz.func45 rfl rfl (lb_ rfl) (by kernel_rfl) ?_
 unfold nk at hF
 refine af (aa (dW 0 (.inl rfl) [(vS a_1.Id),(vS a_1.Sender),(vI a_1.Kind),(vL eS a_1.Refs),(vI a_1.At),(vI a_1.Until),(vI a_1.Weight),(vL Rect.enc a_1.Areas),(vS a_1.Text)] rfl rfl wz (λn_3=>dW 0 (.inl rfl) [(vS p_2.Player),(vI p_2.X),(vI p_2.Y)] rfl rfl wz (λn_4=>ae (vB false) wz rfl (ae (vI 0) wz rfl (ai (af (af (aa (aF 0 0 il ft dF fJ rfl rfl (.d (.agg (Alert.enc a_1))) rfl wz (dQ (([a_1]:List Alert).map Alert.enc) qJ ez56 rfl rfl rfl rfl rfl wz (aF 0 1 il ft pg vX rfl rfl (.d (.agg (Post.enc p_2))) rfl wz (dQ (([p_2]:List Post).map Post.enc) A9 ez63 rfl rfl rfl rfl rfl wz ?_)))))))))))))
 obtain ⟨r_5,hr_6,hF⟩:=bind_some hF
 refine aB (rC hr_6) rfl hb83 rfl rfl rfl rfl wz (ae (vI r_5) wz rfl (ai (af (aa (ae (vI r_5) wz rfl (ae (vB (r_5 != 0)) wz rfl (ai ?_)))))))
 rcases ak hF with⟨hc_7,hF⟩|⟨hc_7,hF⟩
 ·refine aA rfl hc_7 (af (aa (ae (vI r_5) wz rfl (ae (vB false) wz rfl (ae (vI r_5) wz rfl (ai ?_))))))
  obtain rfl:=ah hF
  exact ax (aR (.inr rfl) [(vB false),(vI r_5)] ⟨rfl,⟨rfl,trivial⟩⟩ rfl rfl rfl)
 ·refine ay rfl hc_7 (au (af (aa (aF 0 0 il ft dF fJ rfl rfl (.d (.agg (Alert.enc a_1))) rfl wz (aF 0 1 il ft pg vX rfl rfl (.d (.agg (Post.enc p_2))) rfl wz ?_)))))
  obtain ⟨r_8,hr_9,hF⟩:=bind_some hF
  refine aB (pu hr_9) rfl MO rfl rfl rfl rfl wz (ae (vB r_8) wz rfl (ae (vI 0) wz rfl (ai ?_)))
  obtain rfl:=ah hF
  exact ax (aR (.inr rfl) [(vB r_8),(vI 0)] ⟨rfl,⟨rfl,trivial⟩⟩ rfl rfl rfl)
theorem DR {r:Bool} (hF:pG  = some r) :
  FnM Tryz.prog 30 [] [] (vB r) []:=by
 refine FnM.of_wH ⟨Tryz.prog,18,[],[]⟩ rfl Tryz.func30 rfl rfl (lb_ rfl) (by kernel_rfl) ?_
 unfold pG at hF
 refine af (aa (ae (vB false) wz rfl (ai (af (aa (ae (.d (.agg (Rect.enc (⟨0,0,2,2⟩:Rect)))) wz (by kernel_rfl) (dQ (([(⟨0,0,2,2⟩:Rect)]:List Rect).map Rect.enc) Kw ez98 rfl rfl rfl rfl rfl wz (ae (.agg [(vS (⟨#[97]⟩:ByteArray)),(vS (⟨#[115]⟩:ByteArray)),(vI 1),.nil,(vI 0),(vI 5),(vI 1),(vL Rect.enc ([(⟨0,0,2,2⟩:Rect)]:List Rect)),(vS (⟨#[120]⟩:ByteArray))]) wz (by kernel_rfl) (cK 0 (.inl rfl) yh rfl wz (λn_1=>dJ 0 il ft 0 dF rfl rfl [(vS (⟨#[97]⟩:ByteArray)),(vS (⟨#[115]⟩:ByteArray)),(vI 1),.nil,(vI 0),(vI 5),(vI 1),(vL Rect.enc ([(⟨0,0,2,2⟩:Rect)]:List Rect)),(vS (⟨#[120]⟩:ByteArray))] rfl wz (ai (af (aa (aF 0 0 il ft dF fJ rfl rfl (.agg [(vS (⟨#[97]⟩:ByteArray)),(vS (⟨#[115]⟩:ByteArray)),(vI 1),.nil,(vI 0),(vI 5),(vI 1),(vL Rect.enc ([(⟨0,0,2,2⟩:Rect)]:List Rect)),(vS (⟨#[120]⟩:ByteArray))]) rfl wz (ae (.d (.agg (Post.enc (⟨(⟨#[112]⟩:ByteArray),1,1⟩:Post)))) wz (by kernel_rfl) ?_)))))))))))))))
 obtain ⟨r_2,hr_3,hF⟩:=bind_some hF
 refine aB (zY hr_3) rfl hb45 rfl rfl rfl rfl wz (ae (.tup [(vB r_2.1),(vI r_2.2)]) wz rfl (ae (vB r_2.1) wz rfl (ae (vI r_2.2) wz rfl (ae (vB r_2.1) wz rfl (ae (vI r_2.2) wz rfl (ai (af ?_)))))))
 obtain ⟨v_4,h_5,hF⟩:=bind_some hF
 refine aG (β:=Unit) (λ_=>([(0,(vB v_4))]:SL_)) (λ_=>([(n_1,some (.cells 9 [(vS (⟨#[97]⟩:ByteArray)),(vS (⟨#[115]⟩:ByteArray)),(vI 1),.nil,(vI 0),(vI 5),(vI 1),(vL Rect.enc ([(⟨0,0,2,2⟩:Rect)]:List Rect)),(vS (⟨#[120]⟩:ByteArray))]))]:Hp)) (λ_=>True) ?_ ?_
 ·refine aa (ae (vI r_2.2) wz rfl (ae (vB (r_2.2==0)) wz rfl ?_))
  rcases ak h_5 with⟨hc_6,h_5⟩|⟨hc_6,h_5⟩
  ·refine aC rfl hc_6 wz (ae (vB r_2.1) wa rfl (ae (vB r_2.1) wz rfl (ae (vB r_2.1) wz rfl (ai ?_))))
   obtain rfl:=ah h_5
   exact cu
  ·refine aC rfl hc_6 wz (aj wa (ae (vB false) wz rfl (ae (vB false) wz rfl (ai ?_))))
   obtain rfl:=ah h_5
   exact cu
 ·rintro ⟨⟩ _ sl_ H_ hp_ hq_
  refine aN _ hp_ hq_ ?_
  obtain rfl:=ah hF
  exact ax (aR (.inr rfl) [(vB v_4)] ⟨rfl,trivial⟩ rfl rfl rfl)
end Go.Proofs.YtjhcehhmdmbleaaGreatDoor.Law

