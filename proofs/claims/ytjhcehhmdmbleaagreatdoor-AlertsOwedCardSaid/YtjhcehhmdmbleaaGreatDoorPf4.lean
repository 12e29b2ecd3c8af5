/-
 The machine computes these plain functions (written by a program of ours).
-/
import Derived.Test.YtjhcehhmdmbleaaGreatDoorFacts
import Derived.Test.YtjhcehhmdmbleaaGreatDoorDefs
import Derived.Test.YtjhcehhmdmbleaaGreatDoorPf3
import Derived.Test.YtjhcehhmdmbleaaGreatDoorShelf
open Go Go.Eng Go.Proofs
namespace Go.Proofs.YtjhcehhmdmbleaaGreatDoor.Law
set_option maxRecDepth 100000
set_option linter.unusedVariables false
set_option maxHeartbeats 1000000
theorem tT {a_1:Alert} {b_2:Alert} {r:Int} (hF:jl a_1 b_2=some r) :
  FnM Tryz.prog 206 [(.d (.agg (Alert.enc a_1))),(.d (.agg (Alert.enc b_2)))] [] (vI r) []:=by
 refine FnM.of_wH ⟨Tryz.prog,17,[],[]⟩ rfl Tryz.func206 rfl rfl (lb_ rfl) (by kernel_rfl) ?_
 unfold jl at hF
 refine af (aa (dW 0 (.inl rfl) [(vS a_1.Id),(vS a_1.Sender),(vI a_1.Kind),(vL eS a_1.Refs),(vI a_1.At),(vI a_1.Until),(vI a_1.Weight),(vL Rect.enc a_1.Areas),(vS a_1.Text)] rfl rfl wz (λn_3=>dW 0 (.inl rfl) [(vS b_2.Id),(vS b_2.Sender),(vI b_2.Kind),(vL eS b_2.Refs),(vI b_2.At),(vI b_2.Until),(vI b_2.Weight),(vL Rect.enc b_2.Areas),(vS b_2.Text)] rfl rfl wz (λn_4=>ae (vI 0) wz rfl (ai (af (bR (aI fq rfl 4 rfl wz (aF 1 0 (.inr (by kernel_rfl)) (λ_ _ ag=>trivial) sz3 ag3 rfl rfl (vI a_1.At) rfl wz (aI fq rfl 4 rfl wz (aF 3 1 (.inr (by kernel_rfl)) (λ_ _ ag=>⟨.inl ⟨rfl,rfl⟩,trivial⟩) sz3 ag3 rfl rfl (vI b_2.At) rfl wz ?_)))))))))))
 obtain ⟨r_5,hr_6,hF⟩:=bind_some hF
 refine aB (nC hr_6) rfl LV rfl rfl rfl rfl wz (aI eD rfl 0 rfl wz (aF 6 0 (.inr (by kernel_rfl)) (λ_ _ ag=>⟨.inl ⟨rfl,rfl⟩,⟨.inl ⟨rfl,rfl⟩,trivial⟩⟩) sz9 ag9 rfl rfl (vS a_1.Id) rfl wz (aI eD rfl 0 rfl wz (aF 8 1 (.inr (by kernel_rfl)) (λ_ _ ag=>⟨.inl ⟨rfl,rfl⟩,⟨.inl ⟨rfl,rfl⟩,⟨.inl ⟨rfl,rfl⟩,trivial⟩⟩⟩) sz9 ag9 rfl rfl (vS b_2.Id) rfl wz ?_))))
 obtain ⟨r_7,hr_8,hF⟩:=bind_some hF
 refine aB (iG hr_8) rfl Ez rfl rfl rfl rfl wz (dQ (([r_5,r_7]:List Int).map eI) sQ zW rfl rfl rfl rfl rfl wz ?_)
 obtain ⟨r_9,hr_10,hF⟩:=bind_some hF
 refine aB (pX hr_10) rfl JZ rfl rfl rfl rfl wz (ae (vI r_9) wz rfl (ai ?_))
 obtain rfl:=ah hF
 exact ax (aR (.inr rfl) [(vI r_9)] ⟨rfl,trivial⟩ rfl rfl rfl)
theorem wJ {l_1:(List Alert)} {r:Int} (hF:gX l_1=some r) :
  FnM Tryz.prog 161 [(vL Alert.enc l_1)] [] (vI r) []:=by
 refine FnM.of_wH ⟨Tryz.prog,52,[],[]⟩ rfl Tryz.func161 rfl rfl (lb_ rfl) (by kernel_rfl) ?_
 unfold gX at hF
 refine af (aa (ae (vI 0) wz rfl (ai (af (af (aa (ae (vL Alert.enc l_1) wz rfl (bN uT rfl wz (ae (vB (decide ((l_1.length:Int)>300))) wz rfl (ai ?_))))))))))
 rcases ak hF with⟨hc_2,hF⟩|⟨hc_2,hF⟩
 ·refine aA rfl hc_2 (af (aa (ae (vI 2) wz rfl (ai ?_))))
  obtain rfl:=ah hF
  exact ax (aR (.inr rfl) [(vI 2)] ⟨rfl,trivial⟩ rfl rfl rfl)
 ·refine ay rfl hc_2 (au (af (af (aa (ae (vL Alert.enc l_1) wz rfl (bN uT rfl wz (ae (vI 0) wz rfl (ai ?_))))))))
  obtain ⟨o_11,hj_12,hF⟩:=bind_some hF
  obtain ⟨hn_7,hj_12⟩:=aU hj_12
  refine aG (β:=(Unit)) (λ(s_8:Unit)=>([(0,(vL Alert.enc l_1))]:SL_)) (λ(s_8:Unit)=>([]:Hp)) (λp=>o_11 = .go p) ?_ ?_
  ·refine aD (bf (β:=Nat×(List Alert)×(Unit)) (λp=>(λ(k_3:Nat) (l_4:List Alert) (s_8:Unit)=>([(0,(vL Alert.enc l_1)),(12,(vL Alert.enc l_1)),(13,(vI (l_1.length:Int))),(14,(vI (k_3:Int)))]:SL_)) p.1 p.2.1 p.2.2) (λp=>(λ(k_3:Nat) (l_4:List Alert) (s_8:Unit)=>([]:Hp)) p.1 p.2.1 p.2.2) (λp=>forR (λk x s=>eQ l_1 k x s) p.2.1 p.1 p.2.2=some o_11/\(l_1).drop p.1=p.2.1) (λp=>p.2.1.length) (0,l_1,()) ⟨hj_12,rfl⟩ rfl (aJ rfl) ?_)
   rintro ⟨k_3,l_4,s_8⟩ ⟨hL_10,hD_6⟩
   dsimp only at hL_10 hD_6
   cases l_4 with
   | nil =>
    obtain rfl:=ah hL_10
    refine af (aa (ae (vB (decide ((k_3:Int)<(l_1.length:Int)))) wz rfl (ai ?_)))
    refine af (ay rfl (drop_nil hD_6) (aW ?_))
    exact aZ (s_8) rfl rfl (aJ rfl)
   | cons x_5 l_4 =>
    obtain ⟨c_,hc_9,hL_10⟩:=bind_some hL_10
    refine af (aa (ae (vB (decide ((k_3:Int)<(l_1.length:Int)))) wz rfl (ai ?_)))
    refine af (aA rfl (aY hD_6) (au ?_))
    unfold eQ at hc_9
    refine af (aD (af (aa (ae (vI (k_3:Int)) wz rfl (fU qJ rfl rfl (bz hD_6) rfl wz (dn dF fJ rfl (.d (.agg (Alert.enc x_5))) rfl wz (cK 0 (.inl rfl) yh rfl wz (λn_13=>ae (vI (k_3:Int)) wz rfl (dJ 0 il ft 0 dF rfl rfl [(vS x_5.Id),(vS x_5.Sender),(vI x_5.Kind),(vL eS x_5.Refs),(vI x_5.At),(vI x_5.Until),(vI x_5.Weight),(vL Rect.enc x_5.Areas),(vS x_5.Text)] rfl wz (ai (af (af (aa (aF 0 0 il ft dF fJ rfl rfl (.d (.agg (Alert.enc x_5))) rfl wz ?_))))))))))))))
    obtain ⟨r_14,hr_15,hc_9⟩:=bind_some hc_9
    refine aB (xG hr_15) rfl hb205 rfl rfl rfl rfl wz (ae (vI r_14) wz rfl (ai (af (aa (ae (vI r_14) wz rfl (ae (vB (r_14 != 0)) wz rfl (ai ?_)))))))
    rcases ak hc_9 with⟨hc_16,hc_9⟩|⟨hc_16,hc_9⟩
    ·refine aA rfl hc_16 (af (aa (ae (vI r_14) wz rfl (ae (vI r_14) wz rfl (ai ?_)))))
     obtain rfl:=ah hc_9
     obtain rfl:=ah hL_10
     obtain rfl:=ah hF
     exact ax (aR (.inr rfl) [(vI r_14)] ⟨rfl,trivial⟩ rfl rfl rfl)
    ·refine ay rfl hc_16 (au (af ?_))
     obtain ⟨v_17,h_18,hc_9⟩:=bind_some hc_9
     refine aG (β:=Unit) (λ_=>([(0,(vL Alert.enc l_1)),(12,(vL Alert.enc l_1)),(13,(vI (l_1.length:Int))),(14,(vI (k_3:Int))),(35,(vB v_17))]:SL_)) (λ_=>([(n_13,some (.cells 9 [(vS x_5.Id),(vS x_5.Sender),(vI x_5.Kind),(vL eS x_5.Refs),(vI x_5.At),(vI x_5.Until),(vI x_5.Weight),(vL Rect.enc x_5.Areas),(vS x_5.Text)]))]:Hp)) (λ_=>True) ?_ ?_
     ·refine bR (ae (vI (k_3:Int)) wz rfl (ae (vB (decide ((k_3:Int)>0))) wz rfl ?_))
      rcases ak h_18 with⟨hc_19,h_18⟩|⟨hc_19,h_18⟩
      ·refine aC rfl hc_19 wz (ae (vL Alert.enc l_1) wa rfl (ae (vI (k_3:Int)) wa rfl (ae (vI (w64 ((k_3:Int)-1))) wa rfl ?_)))
       obtain ⟨y_20,hy_21,h_18⟩:=bind_some h_18
       refine fU qJ rfl rfl hy_21 rfl wa (dn dF fJ rfl (.d (.agg (Alert.enc y_20))) rfl wa (aF 8 0 (.inr (by kernel_rfl)) (λ_ _ ag=>trivial) dF fJ rfl rfl (.d (.agg (Alert.enc x_5))) rfl wa ?_))
       obtain ⟨r_22,hr_23,h_18⟩:=bind_some h_18
       refine aB (tT hr_23) rfl hb206 rfl rfl rfl rfl wa (ae (vB (decide (r_22>=0))) wa rfl (ae (vB (decide (r_22>=0))) wz rfl (ai ?_)))
       obtain rfl:=ah h_18
       exact cu
      ·refine aC rfl hc_19 wz (aj wa (aj wa (aj wa (aj wa (aj wa (aj wa (aj wa (aj wa (ae (vB false) wz rfl (ai ?_))))))))))
       obtain rfl:=ah h_18
       exact cu
     ·rintro ⟨⟩ _ sl_ H_ hp_ hq_
      refine aN _ hp_ hq_ ?_
      rcases ak hc_9 with⟨hc_24,hc_9⟩|⟨hc_24,hc_9⟩
      ·refine aA rfl hc_24 (af (aa (ae (vI 7) wz rfl (ai ?_))))
       obtain rfl:=ah hc_9
       obtain rfl:=ah hL_10
       obtain rfl:=ah hF
       exact ax (aR (.inr rfl) [(vI 7)] ⟨rfl,trivial⟩ rfl rfl rfl)
      ·refine ay rfl hc_24 (au (aa (dX (bg hD_6 hn_7) wz rfl (ae (vI ((k_3+1:Nat):Int)) wz rfl (ai ?_)))))
       obtain rfl:=ah hc_9
       exact aV (k_3+1,l_4,()) ⟨hL_10,aQ hD_6⟩ (ls_ _) rfl (aJ rfl)
  ·rintro s_8 ho_ sl_ H_ hp_ hq_
   subst ho_
   refine aN _ hp_ hq_ (af (aa (Br 0 (.inl rfl) wz (λn_25=>Ef (b':=some (bM D.str D.bool ([]:List (ByteArray×Bool)))) 0 rfl rfl (ae (.map n_25) wz rfl (ai (af (af (aa (ae (vL Alert.enc l_1) wz rfl (bN uT rfl wz (ae (vI 0) wz rfl (ai ?_)))))))))))))
   obtain ⟨o_34,hj_35,hF⟩:=bind_some hF
   obtain ⟨hn_30,hj_35⟩:=aU hj_35
   refine aG (β:=((List (ByteArray×Bool)))) (λ(s_31:(List (ByteArray×Bool)))=>([]:SL_)) (λ(s_31:(List (ByteArray×Bool)))=>([(n_25,some (bM D.str D.bool s_31))]:Hp)) (λp=>o_34 = .go p) ?_ ?_
   ·refine aD (bf (β:=Nat×(List Alert)×((List (ByteArray×Bool)))) (λp=>(λ(k_26:Nat) (l_27:List Alert) (s_31:(List (ByteArray×Bool)))=>([(6,(.map n_25)),(38,(vL Alert.enc l_1)),(39,(vI (l_1.length:Int))),(40,(vI (k_26:Int)))]:SL_)) p.1 p.2.1 p.2.2) (λp=>(λ(k_26:Nat) (l_27:List Alert) (s_31:(List (ByteArray×Bool)))=>([(n_25,some (bM D.str D.bool s_31))]:Hp)) p.1 p.2.1 p.2.2) (λp=>forR (λk x s=>dE k x s) p.2.1 p.1 p.2.2=some o_34/\(l_1).drop p.1=p.2.1) (λp=>p.2.1.length) (0,l_1,([]:List (ByteArray×Bool))) ⟨hj_35,rfl⟩ rfl (aJ rfl) ?_)
    rintro ⟨k_26,l_27,s_31⟩ ⟨hL_33,hD_29⟩
    dsimp only at hL_33 hD_29
    cases l_27 with
    | nil =>
     obtain rfl:=ah hL_33
     refine af (aa (ae (vB (decide ((k_26:Int)<(l_1.length:Int)))) wz rfl (ai ?_)))
     refine af (ay rfl (drop_nil hD_29) (aW ?_))
     exact aZ (s_31) rfl rfl (aJ rfl)
    | cons x_28 l_27 =>
     obtain ⟨c_,hc_32,hL_33⟩:=bind_some hL_33
     refine af (aa (ae (vB (decide ((k_26:Int)<(l_1.length:Int)))) wz rfl (ai ?_)))
     refine af (aA rfl (aY hD_29) (au ?_))
     unfold dE at hc_32
     refine af (aD (af (aa (fU qJ rfl rfl (bz hD_29) rfl wz (dn dF fJ rfl (.d (.agg (Alert.enc x_28))) rfl wz (cK 0 (.inl rfl) yh rfl wz (λn_36=>dJ 0 il ft 1 dF rfl rfl [(vS x_28.Id),(vS x_28.Sender),(vI x_28.Kind),(vL eS x_28.Refs),(vI x_28.At),(vI x_28.Until),(vI x_28.Weight),(vL Rect.enc x_28.Areas),(vS x_28.Text)] rfl wz (ai (af (af (aa (ae (.map n_25) wz rfl (aI eD rfl 0 rfl wz (aF 0 1 il ft sz9 ag9 rfl rfl (vS x_28.Id) rfl wz (wF (eq:=eqS) (kD:=D.str) (vD:=D.bool) (es:=s_31) (k:=x_28.Id) (z:=false) 0 0 il ft (λ_ _=>rfl) Jt (by kernel_rfl) (by kernel_rfl) rfl rfl rfl (vB ((mGet eqS s_31 x_28.Id).getD false)) rfl wz (ai ?_))))))))))))))))
     rcases ak hc_32 with⟨hc_37,hc_32⟩|⟨hc_37,hc_32⟩
     ·refine aA rfl hc_37 (af (aa (ae (vI 6) wz rfl (ai ?_))))
      obtain rfl:=ah hc_32
      obtain rfl:=ah hL_33
      obtain rfl:=ah hF
      exact ax (aR (.inr rfl) [(vI 6)] ⟨rfl,trivial⟩ rfl rfl rfl)
     ·refine ay rfl hc_37 (au (aa (ae (.map n_25) wz rfl (aI eD rfl 0 rfl wz (aF 0 1 il ft sz9 ag9 rfl rfl (vS x_28.Id) rfl wz (zi (eq:=eqS) (kD:=D.str) (vD:=D.bool) (es:=s_31) (k:=x_28.Id) (v:=true) 0 0 il ft (λ_ _=>rfl) Jt (by kernel_rfl) rfl rfl rfl rfl wz (ai (aa (dX (bg hD_29 hn_30) wz rfl (ae (vI ((k_26+1:Nat):Int)) wz rfl (ai ?_)))))))))))
      obtain rfl:=ah hc_32
      exact aV (k_26+1,l_27,(sS eqS s_31 x_28.Id true)) ⟨hL_33,aQ hD_29⟩ (ls_ _) rfl (aJ rfl)
   ·rintro s_31 ho_ sl_ H_ hp_ hq_
    subst ho_
    refine aN _ hp_ hq_ (af (aa (ae (vI 0) wz rfl (ai ?_))))
    obtain rfl:=ah hF
    exact ax (aR (.inr rfl) [(vI 0)] ⟨rfl,trivial⟩ rfl rfl rfl)
theorem xJ {l_1:(List Post)} {r:Int} (hF:iM l_1=some r) :
  FnM Tryz.prog 162 [(vL Post.enc l_1)] [] (vI r) []:=by
 refine FnM.of_wH ⟨Tryz.prog,44,[],[]⟩ rfl Tryz.func162 rfl rfl (lb_ rfl) (by kernel_rfl) ?_
 unfold iM at hF
 refine af (aa (ae (vI 0) wz rfl (ai (af (af (aa (ae (vL Post.enc l_1) wz rfl (bN AY rfl wz (ae (vB (decide ((l_1.length:Int)>500))) wz rfl (ai ?_))))))))))
 rcases ak hF with⟨hc_2,hF⟩|⟨hc_2,hF⟩
 ·refine aA rfl hc_2 (af (aa (ae (vI 2) wz rfl (ai ?_))))
  obtain rfl:=ah hF
  exact ax (aR (.inr rfl) [(vI 2)] ⟨rfl,trivial⟩ rfl rfl rfl)
 ·refine ay rfl hc_2 (au (af (af (aa (ae (vL Post.enc l_1) wz rfl (bN AY rfl wz (ae (vI 0) wz rfl (ai ?_))))))))
  obtain ⟨o_11,hj_12,hF⟩:=bind_some hF
  obtain ⟨hn_7,hj_12⟩:=aU hj_12
  refine aG (β:=(Unit)) (λ(s_8:Unit)=>([]:SL_)) (λ(s_8:Unit)=>([]:Hp)) (λp=>o_11 = .go p) ?_ ?_
  ·refine aD (bf (β:=Nat×(List Post)×(Unit)) (λp=>(λ(k_3:Nat) (l_4:List Post) (s_8:Unit)=>([(0,(vL Post.enc l_1)),(8,(vL Post.enc l_1)),(9,(vI (l_1.length:Int))),(10,(vI (k_3:Int)))]:SL_)) p.1 p.2.1 p.2.2) (λp=>(λ(k_3:Nat) (l_4:List Post) (s_8:Unit)=>([]:Hp)) p.1 p.2.1 p.2.2) (λp=>forR (λk x s=>fw l_1 k x s) p.2.1 p.1 p.2.2=some o_11/\(l_1).drop p.1=p.2.1) (λp=>p.2.1.length) (0,l_1,()) ⟨hj_12,rfl⟩ rfl (aJ rfl) ?_)
   rintro ⟨k_3,l_4,s_8⟩ ⟨hL_10,hD_6⟩
   dsimp only at hL_10 hD_6
   cases l_4 with
   | nil =>
    obtain rfl:=ah hL_10
    refine af (aa (ae (vB (decide ((k_3:Int)<(l_1.length:Int)))) wz rfl (ai ?_)))
    refine af (ay rfl (drop_nil hD_6) (aW ?_))
    exact aZ (s_8) rfl rfl (aJ rfl)
   | cons x_5 l_4 =>
    obtain ⟨c_,hc_9,hL_10⟩:=bind_some hL_10
    refine af (aa (ae (vB (decide ((k_3:Int)<(l_1.length:Int)))) wz rfl (ai ?_)))
    refine af (aA rfl (aY hD_6) (au ?_))
    unfold fw at hc_9
    refine af (aD (af (aa (ae (vI (k_3:Int)) wz rfl (fU A9 rfl rfl (bz hD_6) rfl wz (dn pg vX rfl (.d (.agg (Post.enc x_5))) rfl wz (cK 0 (.inl rfl) z66 rfl wz (λn_13=>ae (vI (k_3:Int)) wz rfl (dJ 0 il ft 0 pg rfl rfl [(vS x_5.Player),(vI x_5.X),(vI x_5.Y)] rfl wz (ai (aD (af (aa (aI mg rfl 0 rfl wz (aF 0 0 il ft sz9 ag9 rfl rfl (vS x_5.Player) rfl wz ?_)))))))))))))))
    obtain ⟨r_14,hr_15,hc_9⟩:=bind_some hc_9
    refine aB (mM hr_15) rfl EA rfl rfl rfl rfl wz (ae (vB (!r_14)) wz rfl (ae (vB (!r_14)) wz rfl (ai ?_)))
    rcases ak hc_9 with⟨hc_16,hc_9⟩|⟨hc_16,hc_9⟩
    ·refine aA rfl hc_16 (af (aa (ae (vI 5) wz rfl (ai ?_))))
     obtain rfl:=ah hc_9
     obtain rfl:=ah hL_10
     obtain rfl:=ah hF
     exact ax (aR (.inr rfl) [(vI 5)] ⟨rfl,trivial⟩ rfl rfl rfl)
    ·refine ay rfl hc_16 (af ?_)
     obtain ⟨v_17,h_18,hc_9⟩:=bind_some hc_9
     refine aG (β:=Unit) (λ_=>([(0,(vL Post.enc l_1)),(3,(vI (k_3:Int))),(4,(.ref n_13 0 0)),(8,(vL Post.enc l_1)),(9,(vI (l_1.length:Int))),(10,(vI (k_3:Int))),(20,(vB v_17))]:SL_)) (λ_=>([(n_13,some (.cells 3 [(vS x_5.Player),(vI x_5.X),(vI x_5.Y)]))]:Hp)) (λ_=>True) ?_ ?_
     ·refine aa (aI Ar rfl 1 rfl wz (aF 0 0 il ft sz3 ag3 rfl rfl (vI x_5.X) rfl wz ?_))
      obtain ⟨r_19,hr_20,h_18⟩:=bind_some h_18
      refine aB (fM hr_20) rfl BC rfl rfl rfl rfl wz ?_
      rcases ak h_18 with⟨hc_21,h_18⟩|⟨hc_21,h_18⟩
      ·refine aC rfl hc_21 wz (aj wa (aj wa (aj wa (ae (vB true) wz rfl (ae (vB true) wz rfl (ai ?_))))))
       obtain rfl:=ah h_18
       exact cu
      ·refine aC rfl hc_21 wz (aI Dc rfl 2 rfl wa (aF 0 0 il ft sz3 ag3 rfl rfl (vI x_5.Y) rfl wa ?_))
       obtain ⟨r_22,hr_23,h_18⟩:=bind_some h_18
       refine aB (fM hr_23) rfl BC rfl rfl rfl rfl wa (ae (vB r_22) wz rfl (ae (vB r_22) wz rfl (ai ?_)))
       obtain rfl:=ah h_18
       exact cu
     ·rintro ⟨⟩ _ sl_ H_ hp_ hq_
      refine aN _ hp_ hq_ ?_
      rcases ak hc_9 with⟨hc_24,hc_9⟩|⟨hc_24,hc_9⟩
      ·refine aA rfl hc_24 (af (aa (ae (vI 1) wz rfl (ai ?_))))
       obtain rfl:=ah hc_9
       obtain rfl:=ah hL_10
       obtain rfl:=ah hF
       exact ax (aR (.inr rfl) [(vI 1)] ⟨rfl,trivial⟩ rfl rfl rfl)
      ·refine ay rfl hc_24 (af ?_)
       obtain ⟨v_25,h_26,hc_9⟩:=bind_some hc_9
       refine aG (β:=Unit) (λ_=>([(0,(vL Post.enc l_1)),(8,(vL Post.enc l_1)),(9,(vI (l_1.length:Int))),(10,(vI (k_3:Int))),(29,(vB v_25))]:SL_)) (λ_=>([(n_13,some (.cells 3 [(vS x_5.Player),(vI x_5.X),(vI x_5.Y)]))]:Hp)) (λ_=>True) ?_ ?_
       ·refine bR (ae (vI (k_3:Int)) wz rfl (ae (vB (decide ((k_3:Int)>0))) wz rfl ?_))
        rcases ak h_26 with⟨hc_27,h_26⟩|⟨hc_27,h_26⟩
        ·refine aC rfl hc_27 wz (aI mg rfl 0 rfl wa (aF 4 0 (.inr (by kernel_rfl)) (λ_ _ ag=>trivial) sz9 ag9 rfl rfl (vS x_5.Player) rfl wa (ae (vL Post.enc l_1) wa rfl (ae (vI (k_3:Int)) wa rfl (ae (vI (w64 ((k_3:Int)-1))) wa rfl ?_)))))
         obtain ⟨y_28,hy_29,h_26⟩:=bind_some h_26
         refine fU A9 rfl rfl hy_29 rfl wa (h_fac mg rfl [.str y_28.Player,.int .i64 y_28.X,.int .i64 y_28.Y] rfl rfl wa (dn sz9 ag9 rfl (vS y_28.Player) rfl wa (ae (vB (sLe x_5.Player y_28.Player)) wa rfl (ae (vB (sLe x_5.Player y_28.Player)) wz rfl (ae (vB (sLe x_5.Player y_28.Player)) wz rfl (ai ?_))))))
         obtain rfl:=ah h_26
         exact cu
        ·refine aC rfl hc_27 wz (aj wa (aj wa (aj wa (aj wa (aj wa (aj wa (aj wa (aj wa (aj wa (ae (vB false) wz rfl (ae (vB false) wz rfl (ai ?_))))))))))))
         obtain rfl:=ah h_26
         exact cu
       ·rintro ⟨⟩ _ sl_ H_ hp_ hq_
        refine aN _ hp_ hq_ ?_
        rcases ak hc_9 with⟨hc_30,hc_9⟩|⟨hc_30,hc_9⟩
        ·refine aA rfl hc_30 (af (aa (ae (vI 7) wz rfl (ai ?_))))
         obtain rfl:=ah hc_9
         obtain rfl:=ah hL_10
         obtain rfl:=ah hF
         exact ax (aR (.inr rfl) [(vI 7)] ⟨rfl,trivial⟩ rfl rfl rfl)
        ·refine ay rfl hc_30 (au (aa (dX (bg hD_6 hn_7) wz rfl (ae (vI ((k_3+1:Nat):Int)) wz rfl (ai ?_)))))
         obtain rfl:=ah hc_9
         exact aV (k_3+1,l_4,()) ⟨hL_10,aQ hD_6⟩ (ls_ _) rfl (aJ rfl)
  ·rintro s_8 ho_ sl_ H_ hp_ hq_
   subst ho_
   refine aN _ hp_ hq_ (af (aa (ae (vI 0) wz rfl (ai ?_))))
   obtain rfl:=ah hF
   exact ax (aR (.inr rfl) [(vI 0)] ⟨rfl,trivial⟩ rfl rfl rfl)
theorem rC {l_1:(List Alert)} {posts_2:(List Post)} {r:Int} (hF:ig l_1 posts_2=some r) :
  FnM Tryz.prog 83 [(vL Alert.enc l_1),(vL Post.enc posts_2)] [] (vI r) []:=by
 refine FnM.of_wH ⟨Tryz.prog,13,[],[]⟩ rfl Tryz.func83 rfl rfl (lb_ rfl) (by kernel_rfl) ?_
 unfold ig at hF
 refine af (aa (ae (vI 0) wz rfl (ai (af (af (aa (ae (vL Alert.enc l_1) wz rfl ?_)))))))
 obtain ⟨r_3,hr_4,hF⟩:=bind_some hF
 refine aB (wJ hr_4) rfl hb161 rfl rfl rfl rfl wz (ae (vI r_3) wz rfl (ai (af (aa (ae (vI r_3) wz rfl (ae (vB (r_3 != 0)) wz rfl (ai ?_)))))))
 rcases ak hF with⟨hc_5,hF⟩|⟨hc_5,hF⟩
 ·refine aA rfl hc_5 (af (aa (ae (vI r_3) wz rfl (ae (vI r_3) wz rfl (ai ?_)))))
  obtain rfl:=ah hF
  exact ax (aR (.inr rfl) [(vI r_3)] ⟨rfl,trivial⟩ rfl rfl rfl)
 ·refine ay rfl hc_5 (au (af (aa (ae (vL Post.enc posts_2) wz rfl ?_))))
  obtain ⟨r_6,hr_7,hF⟩:=bind_some hF
  refine aB (xJ hr_7) rfl hb162 rfl rfl rfl rfl wz (ae (vI r_6) wz rfl (ai ?_))
  obtain rfl:=ah hF
  exact ax (aR (.inr rfl) [(vI r_6)] ⟨rfl,trivial⟩ rfl rfl rfl)
theorem oK {l_1:(List Alert)} {posts_2:(List Post)} {r_3:(List Receipt)} {r:Int} (hF:jB l_1 posts_2 r_3=some r) :
  FnM Tryz.prog 100 [(vL Alert.enc l_1),(vL Post.enc posts_2),(vL Receipt.enc r_3)] [] (vI r) []:=by
 refine FnM.of_wH ⟨Tryz.prog,16,[],[]⟩ rfl Tryz.func100 rfl rfl (lb_ rfl) (by kernel_rfl) ?_
 unfold jB at hF
 refine af (aa (ae (vI 0) wz rfl (ai (af (af (aa (ae (vL Alert.enc l_1) wz rfl (ae (vL Post.enc posts_2) wz rfl ?_))))))))
 obtain ⟨r_4,hr_5,hF⟩:=bind_some hF
 refine aB (rC hr_5) rfl hb83 rfl rfl rfl rfl wz (ae (vI r_4) wz rfl (ai (af (aa (ae (vI r_4) wz rfl (ae (vB (r_4 != 0)) wz rfl (ai ?_)))))))
 rcases ak hF with⟨hc_6,hF⟩|⟨hc_6,hF⟩
 ·refine aA rfl hc_6 (af (aa (ae (vI r_4) wz rfl (ae (vI r_4) wz rfl (ai ?_)))))
  obtain rfl:=ah hF
  exact ax (aR (.inr rfl) [(vI r_4)] ⟨rfl,trivial⟩ rfl rfl rfl)
 ·refine ay rfl hc_6 (au (af (aa (ae (vL Receipt.enc r_3) wz rfl ?_))))
  obtain ⟨r_7,hr_8,hF⟩:=bind_some hF
  refine aB (kX hr_8) rfl hb52 rfl rfl rfl rfl wz (ae (vI r_7) wz rfl (ai ?_))
  obtain rfl:=ah hF
  exact ax (aR (.inr rfl) [(vI r_7)] ⟨rfl,trivial⟩ rfl rfl rfl)
theorem wT {r_1:(List Receipt)} {atv_2:Int} {r:(List (Pair×Int))} (hF:l6 r_1 atv_2=some r) :
  FnM Tryz.prog 102 [(vL Receipt.enc r_1),(vI atv_2)] [] (.map (av 0)) [some (bM (λx=>D.agg (Pair.enc x)) (D.int .i64) r)]:=by
 refine FnM.of_wH ⟨Tryz.prog,49,[],[]⟩ rfl Tryz.func102 rfl rfl (lb_ rfl) (by kernel_rfl) ?_
 unfold l6 at hF
 refine af (aa (ae .nilm wz rfl (ai (af (aa (Br 0 (.inl rfl) wz (λn_3=>Ef (b':=some (bM (λx=>D.agg (Pair.enc x)) (D.int .i64) ([]:List (Pair×Int)))) 0 rfl rfl (ae (.map n_3) wz rfl (ai (af (af (aa (ae (vL Receipt.enc r_1) wz rfl (bN nE rfl wz (ae (vI 0) wz rfl (ai ?_))))))))))))))))
 obtain ⟨o_12,hj_13,hF⟩:=bind_some hF
 obtain ⟨hn_8,hj_13⟩:=aU hj_13
 refine aG (β:=((List (Pair×Int)))) (λ(s_9:(List (Pair×Int)))=>([(5,(.map n_3))]:SL_)) (λ(s_9:(List (Pair×Int)))=>([(n_3,some (bM (λx=>D.agg (Pair.enc x)) (D.int .i64) s_9))]:Hp)) (λp=>o_12 = .go p) ?_ ?_
 ·refine aD (bf (β:=Nat×(List Receipt)×((List (Pair×Int)))) (λp=>(λ(k_4:Nat) (l_5:List Receipt) (s_9:(List (Pair×Int)))=>([(1,(vI atv_2)),(5,(.map n_3)),(12,(vL Receipt.enc r_1)),(13,(vI (r_1.length:Int))),(14,(vI (k_4:Int)))]:SL_)) p.1 p.2.1 p.2.2) (λp=>(λ(k_4:Nat) (l_5:List Receipt) (s_9:(List (Pair×Int)))=>([(n_3,some (bM (λx=>D.agg (Pair.enc x)) (D.int .i64) s_9))]:Hp)) p.1 p.2.1 p.2.2) (λp=>forR (λk x s=>mE atv_2 k x s) p.2.1 p.1 p.2.2=some o_12/\(r_1).drop p.1=p.2.1) (λp=>p.2.1.length) (0,r_1,([]:List (Pair×Int))) ⟨hj_13,rfl⟩ rfl (aJ rfl) ?_)
  rintro ⟨k_4,l_5,s_9⟩ ⟨hL_11,hD_7⟩
  dsimp only at hL_11 hD_7
  cases l_5 with
  | nil =>
   obtain rfl:=ah hL_11
   refine af (aa (ae (vB (decide ((k_4:Int)<(r_1.length:Int)))) wz rfl (ai ?_)))
   refine af (ay rfl (drop_nil hD_7) (aW ?_))
   exact aZ (s_9) rfl rfl (aJ rfl)
  | cons x_6 l_5 =>
   obtain ⟨c_,hc_10,hL_11⟩:=bind_some hL_11
   refine af (aa (ae (vB (decide ((k_4:Int)<(r_1.length:Int)))) wz rfl (ai ?_)))
   refine af (aA rfl (aY hD_7) (au ?_))
   unfold mE at hc_10
   refine af (aD (af (aa (fU qQ rfl rfl (bz hD_7) rfl wz (dn jh oh rfl (.d (.agg (Receipt.enc x_6))) rfl wz (cK 0 (.inl rfl) z91 rfl wz (λn_14=>dJ 0 il ft 1 jh rfl rfl [(vS x_6.Player),(vS x_6.Alert),(vI x_6.At),(vB x_6.Seen)] rfl wz (ai (af (aa (aI rZ rfl 0 rfl wz (aF 0 1 il ft sz9 ag9 rfl rfl (vS x_6.Player) rfl wz (aI sN rfl 1 rfl wz (aF 0 1 il ft sz9 ag9 rfl rfl (vS x_6.Alert) rfl wz (ae (.d (.agg (Pair.enc (⟨x_6.Player,x_6.Alert⟩:Pair)))) wz (by kernel_rfl) (cK 0 (.inl rfl) z191 rfl wz (λn_15=>dJ 0 il ft 2 Lh rfl rfl [(vS x_6.Player),(vS x_6.Alert)] rfl wz (ai (af (aa (ae (.map n_3) wz rfl (aF 0 2 il ft Lh ag191 rfl rfl (.d (.agg (Pair.enc (⟨x_6.Player,x_6.Alert⟩:Pair)))) rfl wz (wF (eq:=(λ(a b:Pair)=>(eqS a.f_player b.f_player&&(eqS a.f_alert b.f_alert&&true)))) (kD:=(λx=>D.agg (Pair.enc x))) (vD:=(D.int .i64)) (es:=s_9) (k:=(⟨x_6.Player,x_6.Alert⟩:Pair)) (z:=0) 0 0 il ft (λ_ _=>rfl) Jy (by kernel_rfl) (by kernel_rfl) rfl rfl rfl (.tup [(vI ((mGet (λ(a b:Pair)=>(eqS a.f_player b.f_player&&(eqS a.f_alert b.f_alert&&true))) s_9 (⟨x_6.Player,x_6.Alert⟩:Pair)).getD 0)),(vB ((mGet (λ(a b:Pair)=>(eqS a.f_player b.f_player&&(eqS a.f_alert b.f_alert&&true))) s_9 (⟨x_6.Player,x_6.Alert⟩:Pair)).isSome))]) rfl wz ?_)))))))))))))))))))))))
   refine ae (.tup [(vI ((mGet (λ(a b:Pair)=>(eqS a.f_player b.f_player&&(eqS a.f_alert b.f_alert&&true))) s_9 (⟨x_6.Player,x_6.Alert⟩:Pair)).getD 0)),(vB ((mGet (λ(a b:Pair)=>(eqS a.f_player b.f_player&&(eqS a.f_alert b.f_alert&&true))) s_9 (⟨x_6.Player,x_6.Alert⟩:Pair)).isSome))]) wz rfl (ae (vI ((mGet (λ(a b:Pair)=>(eqS a.f_player b.f_player&&(eqS a.f_alert b.f_alert&&true))) s_9 (⟨x_6.Player,x_6.Alert⟩:Pair)).getD 0)) wz rfl (ae (vB ((mGet (λ(a b:Pair)=>(eqS a.f_player b.f_player&&(eqS a.f_alert b.f_alert&&true))) s_9 (⟨x_6.Player,x_6.Alert⟩:Pair)).isSome)) wz rfl (ae (vI ((mGet (λ(a b:Pair)=>(eqS a.f_player b.f_player&&(eqS a.f_alert b.f_alert&&true))) s_9 (⟨x_6.Player,x_6.Alert⟩:Pair)).getD 0)) wz rfl (ae (vB ((mGet (λ(a b:Pair)=>(eqS a.f_player b.f_player&&(eqS a.f_alert b.f_alert&&true))) s_9 (⟨x_6.Player,x_6.Alert⟩:Pair)).isSome)) wz rfl (ai (af ?_))))))
   obtain ⟨v_16,h_17,hc_10⟩:=bind_some hc_10
   refine aG (β:=Unit) (λ_=>([(1,(vI atv_2)),(5,(.map n_3)),(7,(.ref n_14 0 0)),(8,(.ref n_15 0 0)),(12,(vL Receipt.enc r_1)),(13,(vI (r_1.length:Int))),(14,(vI (k_4:Int))),(42,(vB v_16))]:SL_)) (λ_=>([(n_3,some (bM (λx=>D.agg (Pair.enc x)) (D.int .i64) s_9)),(n_14,some (.cells 4 [(vS x_6.Player),(vS x_6.Alert),(vI x_6.At),(vB x_6.Seen)])),(n_15,some (.cells 2 [(vS x_6.Player),(vS x_6.Alert)]))]:Hp)) (λ_=>True) ?_ ?_
   ·refine aa (aI nD rfl 2 rfl wz (aF 0 1 il ft sz3 ag3 rfl rfl (vI x_6.At) rfl wz (ae (vI atv_2) wz rfl (ae (vB (decide (x_6.At<=atv_2))) wz rfl ?_))))
    rcases ak h_17 with⟨hc_18,h_17⟩|⟨hc_18,h_17⟩
    ·refine aC rfl hc_18 wz (ae (vB ((mGet (λ(a b:Pair)=>(eqS a.f_player b.f_player&&(eqS a.f_alert b.f_alert&&true))) s_9 (⟨x_6.Player,x_6.Alert⟩:Pair)).isSome)) wa rfl (ae (vB (!((mGet (λ(a b:Pair)=>(eqS a.f_player b.f_player&&(eqS a.f_alert b.f_alert&&true))) s_9 (⟨x_6.Player,x_6.Alert⟩:Pair)).isSome))) wa rfl ?_))
     rcases ak h_17 with⟨hc_19,h_17⟩|⟨hc_19,h_17⟩
     ·refine aC rfl hc_19 wa (aj wa (aj wa (aj wa (aj wa (ae (vB true) wa rfl (ae (vB true) wz rfl (ai ?_)))))))
      obtain rfl:=ah h_17
      exact cu
     ·refine aC rfl hc_19 wa (aI nD rfl 2 rfl wa (aF 0 1 il ft sz3 ag3 rfl rfl (vI x_6.At) rfl wa (ae (vI ((mGet (λ(a b:Pair)=>(eqS a.f_player b.f_player&&(eqS a.f_alert b.f_alert&&true))) s_9 (⟨x_6.Player,x_6.Alert⟩:Pair)).getD 0)) wa rfl (ae (vB (decide (x_6.At<((mGet (λ(a b:Pair)=>(eqS a.f_player b.f_player&&(eqS a.f_alert b.f_alert&&true))) s_9 (⟨x_6.Player,x_6.Alert⟩:Pair)).getD 0)))) wa rfl (ae (vB (decide (x_6.At<((mGet (λ(a b:Pair)=>(eqS a.f_player b.f_player&&(eqS a.f_alert b.f_alert&&true))) s_9 (⟨x_6.Player,x_6.Alert⟩:Pair)).getD 0)))) wa rfl (ae (vB (decide (x_6.At<((mGet (λ(a b:Pair)=>(eqS a.f_player b.f_player&&(eqS a.f_alert b.f_alert&&true))) s_9 (⟨x_6.Player,x_6.Alert⟩:Pair)).getD 0)))) wz rfl (ai ?_)))))))
      obtain rfl:=ah h_17
      exact cu
    ·refine aC rfl hc_18 wz (aj wa (aj wa (aj wa (aj (wn rfl rfl) (aj (wn rfl rfl) (aj (wn rfl rfl) (aj (wn rfl rfl) (aj wa (ae (vB false) wz rfl (ai ?_))))))))))
     obtain rfl:=ah h_17
     exact cu
   ·rintro ⟨⟩ _ sl_ H_ hp_ hq_
    refine aN _ hp_ hq_ ?_
    obtain ⟨v_20,h_21,hc_10⟩:=bind_some hc_10
    refine aG (β:=Unit) (λ_=>([(1,(vI atv_2)),(5,(.map n_3)),(12,(vL Receipt.enc r_1)),(13,(vI (r_1.length:Int))),(14,(vI (k_4:Int)))]:SL_)) (λ_=>([(n_3,some (bM (λx=>D.agg (Pair.enc x)) (D.int .i64) v_20)),(n_14,some (.cells 4 [(vS x_6.Player),(vS x_6.Alert),(vI x_6.At),(vB x_6.Seen)])),(n_15,some (.cells 2 [(vS x_6.Player),(vS x_6.Alert)]))]:Hp)) (λ_=>True) ?_ ?_
    ·rcases ak h_21 with⟨hc_22,h_21⟩|⟨hc_22,h_21⟩
     ·refine aA rfl hc_22 (aa (ae (.map n_3) wz rfl (aF 0 2 il ft Lh ag191 rfl rfl (.d (.agg (Pair.enc (⟨x_6.Player,x_6.Alert⟩:Pair)))) rfl wz (aI nD rfl 2 rfl wz (aF 0 1 il ft sz3 ag3 rfl rfl (vI x_6.At) rfl wz (zi (eq:=(λ(a b:Pair)=>(eqS a.f_player b.f_player&&(eqS a.f_alert b.f_alert&&true)))) (kD:=(λx=>D.agg (Pair.enc x))) (vD:=(D.int .i64)) (es:=s_9) (k:=(⟨x_6.Player,x_6.Alert⟩:Pair)) (v:=x_6.At) 0 0 il ft (λ_ _=>rfl) Jy (by kernel_rfl) rfl rfl rfl rfl wz (ai ?_)))))))
      obtain rfl:=ah h_21
      exact cu
     ·refine ay rfl hc_22 (au ?_)
      obtain rfl:=ah h_21
      exact cu
    ·rintro ⟨⟩ _ sl_ H_ hp_ hq_
     refine aN _ hp_ hq_ (aa (dX (bg hD_7 hn_8) wz rfl (ae (vI ((k_4+1:Nat):Int)) wz rfl (ai ?_))))
     obtain rfl:=ah hc_10
     exact aV (k_4+1,l_5,v_20) ⟨hL_11,aQ hD_7⟩ (ls_ _) rfl (aJ rfl)
 ·rintro s_9 ho_ sl_ H_ hp_ hq_
  subst ho_
  refine aN _ hp_ hq_ (af (aa (ae (.map n_3) wz rfl (ae (.map n_3) wz rfl (ai ?_)))))
  obtain rfl:=ah hF
  exact ax (rW (.inr rfl) [(.map n_3)] _ [0] [n_3] ⟨rfl,trivial⟩ (.cons (K3 _) .nil) (by kernel_rfl) ⟨(by kernel_rfl),trivial⟩ (by decide) (by kernel_rfl))
theorem A7 {o_1:Alert} {p_2:ByteArray} {p_3:Alert} {r:Bool} (hF:kN o_1 p_2 p_3=some r) :
  FnM Tryz.prog 239 [(.d (.agg (Alert.enc o_1))),(.ref (av 0) 0 0),(.ref (av 1) 0 0)] [(.cells 1 [(vS p_2)]),(.cells 9 [(vS p_3.Id),(vS p_3.Sender),(vI p_3.Kind),(vL eS p_3.Refs),(vI p_3.At),(vI p_3.Until),(vI p_3.Weight),(vL Rect.enc p_3.Areas),(vS p_3.Text)])] (vB r) [some (.cells 1 [(vS p_2)]),some (.cells 9 [(vS p_3.Id),(vS p_3.Sender),(vI p_3.Kind),(vL eS p_3.Refs),(vI p_3.At),(vI p_3.Until),(vI p_3.Weight),(vL Rect.enc p_3.Areas),(vS p_3.Text)])]:=by
 refine FnM.of_wH ⟨Tryz.prog,22,[],[]⟩ rfl Tryz.func239 rfl rfl (lb_ rfl) (by kernel_rfl) ?_
 unfold kN at hF
 refine af (aa (dW 0 (.inl rfl) [(vS o_1.Id),(vS o_1.Sender),(vI o_1.Kind),(vL eS o_1.Refs),(vI o_1.At),(vI o_1.Until),(vI o_1.Weight),(vL Rect.enc o_1.Areas),(vS o_1.Text)] rfl rfl wz (λn_4=>ae (vB false) wz rfl (ai (af ?_)))))
 obtain ⟨v_5,h_6,hF⟩:=bind_some hF
 refine aG (β:=Unit) (λ_=>([(4,(vB v_5))]:SL_)) (λ_=>([((av 0),some (.cells 1 [(vS p_2)])),((av 1),some (.cells 9 [(vS p_3.Id),(vS p_3.Sender),(vI p_3.Kind),(vL eS p_3.Refs),(vI p_3.At),(vI p_3.Until),(vI p_3.Weight),(vL Rect.enc p_3.Areas),(vS p_3.Text)])),(n_4,some (.cells 9 [(vS o_1.Id),(vS o_1.Sender),(vI o_1.Kind),(vL eS o_1.Refs),(vI o_1.At),(vI o_1.Until),(vI o_1.Weight),(vL Rect.enc o_1.Areas),(vS o_1.Text)]))]:Hp)) (λ_=>True) ?_ ?_
 ·refine aa (aI eD rfl 0 rfl wz (aF 0 2 il ft sz9 ag9 rfl rfl (vS o_1.Id) rfl wz (aF 0 0 il ft sz9 ag9 rfl rfl (vS p_2) rfl wz (ae (vB (sEq o_1.Id p_2)) wz rfl ?_))))
  rcases ak h_6 with⟨hc_7,h_6⟩|⟨hc_7,h_6⟩
  ·refine aC rfl hc_7 wz (aI vC rfl 1 rfl wa (aF 0 2 il ft sz9 ag9 rfl rfl (vS o_1.Sender) rfl wa (aI vC rfl 1 rfl wa (aF 0 1 il ft sz9 ag9 rfl rfl (vS p_3.Sender) rfl wa (ae (vB (sEq o_1.Sender p_3.Sender)) wa rfl (ae (vB (sEq o_1.Sender p_3.Sender)) wz rfl ?_))))))
   rcases ak h_6 with⟨hc_8,h_6⟩|⟨hc_8,h_6⟩
   ·refine aC rfl hc_8 wz (aF 0 2 il ft dF fJ rfl rfl (.d (.agg (Alert.enc o_1))) rfl wa (aF 0 1 il ft dF fJ rfl rfl (.d (.agg (Alert.enc p_3))) rfl wa ?_))
    obtain ⟨r_9,hr_10,h_6⟩:=bind_some h_6
    refine aB (tT hr_10) rfl hb206 rfl rfl rfl rfl wa (ae (vB (decide (r_9<0))) wa rfl (ae (vB (decide (r_9<0))) wz rfl (ae (vB (decide (r_9<0))) wz rfl (ai ?_))))
    obtain rfl:=ah h_6
    exact cu
   ·refine aC rfl hc_8 wz (aj wa (aj wa (aj wa (aj wa (ae (vB false) wz rfl (ae (vB false) wz rfl (ai ?_)))))))
    obtain rfl:=ah h_6
    exact cu
  ·refine aC rfl hc_7 wz (aj wa (aj wa (aj wa (aj wa (aj wa (ae (vB false) wz rfl (ae (vB false) wz rfl (aj wa (aj wa (aj wa (aj wa (ae (vB false) wz rfl (ae (vB false) wz rfl (ai ?_))))))))))))))
   obtain rfl:=ah h_6
   exact cu
 ·rintro ⟨⟩ _ sl_ H_ hp_ hq_
  refine aN _ hp_ hq_ ?_
  obtain rfl:=ah hF
  exact ax (rW (.inr rfl) [(vB v_5)] _ [0,1] [av 0,av 1] ⟨rfl,trivial⟩ (.cons (gH rfl rfl) (.nil)) (by kernel_rfl) ⟨(by kernel_rfl),⟨(by kernel_rfl),trivial⟩⟩ (by decide) (by kernel_rfl))
theorem fF {s_1:(List Alert)} {f_2:Alert->Option Bool} {r:Int} {gid:FuncId} {caps:List V} {Sin:List Box} (hfn:∀x0 r,f_2 x0=some r->FnM Tryz.prog gid ([(.d (.agg (Alert.enc x0)))]++caps) Sin (vB r) (Sin.map some)) (hbF:aH Tryz.prog gid=true) (hcapF:caps.flatMap frz=[]/\caps.map co0=caps) (hokF:okL Sin.length caps=true) (hsF:∀b∈Sin,b.ok Sin.length=true) (hmF:∀b∈Sin,b.mut=true) (hF:aP s_1 f_2=some r) :
  FnM Tryz.prog 41 [(vL Alert.enc s_1),(.fn gid caps)] Sin (vI r) (Sin.map some):=by
 refine FnM.of_wH ⟨Tryz.prog,19,[],[]⟩ rfl Tryz.func41 rfl rfl (lb_ rfl) (by kernel_rfl) ?_
 unfold aP at hF
 refine af (aa (ae (vI 0) wz rfl (ai (af (af (aa (ae (vL Alert.enc s_1) wz rfl (bN uT rfl wz (ae (vI 0) wz rfl (ai ?_))))))))))
 obtain ⟨o_11,hj_12,hF⟩:=bind_some hF
 obtain ⟨hn_7,hj_12⟩:=aU hj_12
 refine aG (β:=(Unit)) (λ(s_8:Unit)=>([]:SL_)) (λ(s_8:Unit)=>(mO 0 Sin)) (λp=>o_11 = .go p) ?_ ?_
 ·refine aD (bf (β:=Nat×(List Alert)×(Unit)) (λp=>(λ(k_3:Nat) (l_4:List Alert) (s_8:Unit)=>([(0,(vL Alert.enc s_1)),(1,(.fn gid caps)),(7,(vI (s_1.length:Int))),(8,(vI (k_3:Int)))]:SL_)) p.1 p.2.1 p.2.2) (λp=>(λ(k_3:Nat) (l_4:List Alert) (s_8:Unit)=>(mO 0 Sin)) p.1 p.2.1 p.2.2) (λp=>forR (λk x s=>bJ f_2 k x s) p.2.1 p.1 p.2.2=some o_11/\(s_1).drop p.1=p.2.1) (λp=>p.2.1.length) (0,s_1,()) ⟨hj_12,rfl⟩ rfl (oL _) ?_)
  rintro ⟨k_3,l_4,s_8⟩ ⟨hL_10,hD_6⟩
  dsimp only at hL_10 hD_6
  cases l_4 with
  | nil =>
   obtain rfl:=ah hL_10
   refine af (aa (ae (vB (decide ((k_3:Int)<(s_1.length:Int)))) wz rfl (ai ?_)))
   refine af (ay rfl (drop_nil hD_6) (aW ?_))
   exact aZ (s_8) rfl rfl (oL _)
  | cons x_5 l_4 =>
   obtain ⟨c_,hc_9,hL_10⟩:=bind_some hL_10
   refine af (aa (ae (vB (decide ((k_3:Int)<(s_1.length:Int)))) wz rfl (ai ?_)))
   refine af (aA rfl (aY hD_6) (au ?_))
   unfold bJ at hc_9
   refine af (aD (af (aa (ae (vI (k_3:Int)) wz rfl (ae (vI (k_3:Int)) wz rfl (ai (af (aa (ae (.fn gid caps) wz rfl (ae (vL Alert.enc s_1) wz rfl (ae (vI (k_3:Int)) wz rfl (fU qJ rfl rfl (bz hD_6) rfl wz (dn dF fJ rfl (.d (.agg (Alert.enc x_5))) rfl wz ?_)))))))))))))
   obtain ⟨r_13,hr_14,hc_9⟩:=bind_some hc_9
   refine xB (hfn _ _ hr_14) rfl hbF rfl rfl hcapF hokF hsF hmF rfl wz rfl (ai ?_)
   rcases ak hc_9 with⟨hc_15,hc_9⟩|⟨hc_15,hc_9⟩
   ·refine aA rfl hc_15 (af (aa (ae (vI (k_3:Int)) wz rfl (ae (vI (k_3:Int)) wz rfl (ai ?_)))))
    obtain rfl:=ah hc_9
    obtain rfl:=ah hL_10
    obtain rfl:=ah hF
    exact ax (E8 hsF (.inr rfl) [(vI (k_3:Int))] ⟨rfl,trivial⟩ rfl rfl rfl)
   ·refine ay rfl hc_15 (au (aa (dX (bg hD_6 hn_7) wz rfl (ae (vI ((k_3+1:Nat):Int)) wz rfl (ai ?_)))))
    obtain rfl:=ah hc_9
    exact aV (k_3+1,l_4,()) ⟨hL_10,aQ hD_6⟩ (ls_ _) rfl (oL _)
 ·rintro s_8 ho_ sl_ H_ hp_ hq_
  subst ho_
  refine aN _ hp_ hq_ (af (aa (ae (vI (-1)) wz rfl (ai ?_))))
  obtain rfl:=ah hF
  exact ax (E8 hsF (.inr rfl) [(vI (-1))] ⟨rfl,trivial⟩ rfl rfl rfl)
theorem Du {l_1:(List Alert)} {a_2:Alert} {ref_3:ByteArray} {r:Int} (hF:pM l_1 a_2 ref_3=some r) :
  FnM Tryz.prog 179 [(vL Alert.enc l_1),(.d (.agg (Alert.enc a_2))),(vS ref_3)] [] (vI r) []:=by
 refine FnM.of_wH ⟨Tryz.prog,10,[],[]⟩ rfl Tryz.func179 rfl rfl (lb_ rfl) (by kernel_rfl) ?_
 unfold pM at hF
 refine af (aa (dW 0 (.inl rfl) [(vS a_2.Id),(vS a_2.Sender),(vI a_2.Kind),(vL eS a_2.Refs),(vI a_2.At),(vI a_2.Until),(vI a_2.Weight),(vL Rect.enc a_2.Areas),(vS a_2.Text)] rfl rfl wz (λn_4=>dW 0 (.inl rfl) [(vS ref_3)] rfl rfl wz (λn_5=>ae (vI 0) wz rfl (ai (af (aa (ae (vL Alert.enc l_1) wz rfl (ae (.fn 239 [(.ref n_5 0 0),(.ref n_4 0 0)]) wz rfl ?_)))))))))
 obtain ⟨r_6,hr_7,hF⟩:=bind_some hF
 refine aS 0 [1,0] il ft (fF (gid:=239) (caps:=[.ref (av 0) 0 0,.ref (av 1) 0 0]) (Sin:=[(.cells 1 [(vS ref_3)]),(.cells 9 [(vS a_2.Id),(vS a_2.Sender),(vI a_2.Kind),(vL eS a_2.Refs),(vI a_2.At),(vI a_2.Until),(vI a_2.Weight),(vL Rect.enc a_2.Areas),(vS a_2.Text)])]) (λ_ _ h_=>A7 h_) hb239 ⟨rfl,rfl⟩ (by kernel_rfl) (yB (by kernel_rfl)) (uY (by kernel_rfl)) hr_7) rfl hb41 rfl (by kernel_rfl) (by kernel_rfl) (by kernel_rfl) (by kernel_rfl) (by kernel_rfl) (by kernel_rfl) (by kernel_rfl) (by decide) (by kernel_rfl) wz (vI r_6) (by kernel_rfl) ([(n_4,some (.cells 9 [(vS a_2.Id),(vS a_2.Sender),(vI a_2.Kind),(vL eS a_2.Refs),(vI a_2.At),(vI a_2.Until),(vI a_2.Weight),(vL Rect.enc a_2.Areas),(vS a_2.Text)])),(n_5,some (.cells 1 [(vS ref_3)]))]:Hp) (by kernel_rfl) (ae (vI r_6) wz rfl (ai ?_))
 obtain rfl:=ah hF
 exact ax (aR (.inr rfl) [(vI r_6)] ⟨rfl,trivial⟩ rfl rfl rfl)
theorem tF {l_1:(List Alert)} {r:(List Int)} (hF:nN l_1=some r) :
  FnM Tryz.prog 103 [(vL Alert.enc l_1)] [] (vL eI r) []:=by
 refine FnM.of_wH ⟨Tryz.prog,55,[],[]⟩ rfl Tryz.func103 rfl rfl (lb_ rfl) (by kernel_rfl) ?_
 unfold nN at hF
 refine af (aa (ae .nil wz rfl (ai (af (aa (ae .nil wz rfl (ai (af (af (aa (ae (vL Alert.enc l_1) wz rfl (bN uT rfl wz (ae (vI 0) wz rfl (ai (rF (λn_8 => ?_))))))))))))))))
 obtain ⟨o_13,hj_14,hF⟩:=bind_some hF
 obtain ⟨hn_6,hj_14⟩:=aU hj_14
 refine aG (β:=((List Int))×Nm) (λp=>(λ(s_7:List Int) (n_10:Nm)=>([(0,(vL Alert.enc l_1)),(3,(gV n_10 1 s_7))]:SL_)) p.1 p.2) (λp=>(λ(s_7:List Int) (n_10:Nm)=>([(n_10,gB 1 eI s_7)]:Hp)) p.1 p.2) (λp=>o_13 = .go p.1) ?_ ?_
 ·refine aD (bf (β:=Nat×(List Alert)×((List Int))×Nm) (λp=>(λ(k_2:Nat) (l_3:List Alert) (s_7:List Int) (n_10:Nm)=>([(0,(vL Alert.enc l_1)),(3,(gV n_10 1 s_7)),(11,(vL Alert.enc l_1)),(12,(vI (l_1.length:Int))),(13,(vI (k_2:Int)))]:SL_)) p.1 p.2.1 p.2.2.1 p.2.2.2) (λp=>(λ(k_2:Nat) (l_3:List Alert) (s_7:List Int) (n_10:Nm)=>([(n_10,gB 1 eI s_7)]:Hp)) p.1 p.2.1 p.2.2.1 p.2.2.2) (λp=>forR (λk x s=>mY k x s) p.2.1 p.1 p.2.2.1=some o_13/\(l_1).drop p.1=p.2.1) (λp=>p.2.1.length) (0,l_1,([]:List Int),n_8) ⟨hj_14,rfl⟩ rfl (aJ rfl) ?_)
  rintro ⟨k_2,l_3,s_7,n_10⟩ ⟨hL_12,hD_5⟩
  dsimp only at hL_12 hD_5
  cases l_3 with
  | nil =>
   obtain rfl:=ah hL_12
   refine af (aa (ae (vB (decide ((k_2:Int)<(l_1.length:Int)))) wz rfl (ai ?_)))
   refine af (ay rfl (drop_nil hD_5) (aW ?_))
   exact aZ (s_7,n_10) rfl rfl (aJ rfl)
  | cons x_4 l_3 =>
   obtain ⟨c_,hc_11,hL_12⟩:=bind_some hL_12
   refine af (aa (ae (vB (decide ((k_2:Int)<(l_1.length:Int)))) wz rfl (ai ?_)))
   refine af (aA rfl (aY hD_5) (au ?_))
   unfold mY at hc_11
   refine af (aD (af (aa (fU qJ rfl rfl (bz hD_5) rfl wz (dn dF fJ rfl (.d (.agg (Alert.enc x_4))) rfl wz (cK 0 (.inl rfl) yh rfl wz (λn_15=>dJ 0 il ft 1 dF rfl rfl [(vS x_4.Id),(vS x_4.Sender),(vI x_4.Kind),(vL eS x_4.Refs),(vI x_4.At),(vI x_4.Until),(vI x_4.Weight),(vL Rect.enc x_4.Areas),(vS x_4.Text)] rfl wz (ai (aa (ae (gV n_10 1 s_7) wz rfl (aI xu rfl 5 rfl wz (aF 0 1 il ft sz3 ag3 rfl rfl (vI x_4.Until) rfl wz (dQ (([x_4.Until]:List Int).map eI) sQ zW rfl rfl rfl rfl rfl wz ?_)))))))))))))
   obtain ⟨a_16,hz_17,hc_11⟩:=bind_some hc_11
   refine o7 0 il ft (i:=0) el22 el22 sz3 z3 rfl (by decide) by3 (by decide) (λ_=>rfl) rfl rfl rfl hz_17 wz (λn_18=>ae (gV n_18 1 a_16) wz rfl (ai (aa (dX (bg hD_5 hn_6) wz rfl (ae (vI ((k_2+1:Nat):Int)) wz rfl (ai ?_))))))
   obtain rfl:=ah hc_11
   exact aV (k_2+1,l_3,a_16,n_18) ⟨hL_12,aQ hD_5⟩ (ls_ _) rfl (aJ rfl)
 ·rintro ⟨s_7,n_10⟩ ho_ sl_ H_ hp_ hq_
  subst ho_
  refine aN _ hp_ hq_ (af (af (aa (ae (vL Alert.enc l_1) wz rfl (bN uT rfl wz (ae (vI 0) wz rfl (ai ?_)))))))
  obtain ⟨o_27,hj_28,hF⟩:=bind_some hF
  obtain ⟨hn_23,hj_28⟩:=aU hj_28
  refine aG (β:=((List Int))) (λ(s_24:List Int)=>([(3,(gV n_10 1 s_24))]:SL_)) (λ(s_24:List Int)=>([(n_10,gB 1 eI s_24)]:Hp)) (λp=>o_27 = .go p) ?_ ?_
  ·refine aD (bf (β:=Nat×(List Alert)×((List Int))) (λp=>(λ(k_19:Nat) (l_20:List Alert) (s_24:List Int)=>([(0,(vL Alert.enc l_1)),(3,(gV n_10 1 s_24)),(23,(vL Alert.enc l_1)),(24,(vI (l_1.length:Int))),(25,(vI (k_19:Int)))]:SL_)) p.1 p.2.1 p.2.2) (λp=>(λ(k_19:Nat) (l_20:List Alert) (s_24:List Int)=>([(n_10,gB 1 eI s_24)]:Hp)) p.1 p.2.1 p.2.2) (λp=>forR (λk x s=>ng l_1 k x s) p.2.1 p.1 p.2.2=some o_27/\(l_1).drop p.1=p.2.1) (λp=>p.2.1.length) (0,l_1,s_7) ⟨hj_28,rfl⟩ rfl (aJ rfl) ?_)
   rintro ⟨k_19,l_20,s_24⟩ ⟨hL_26,hD_22⟩
   dsimp only at hL_26 hD_22
   cases l_20 with
   | nil =>
    obtain rfl:=ah hL_26
    refine af (aa (ae (vB (decide ((k_19:Int)<(l_1.length:Int)))) wz rfl (ai ?_)))
    refine af (ay rfl (drop_nil hD_22) (aW ?_))
    exact aZ (s_24) rfl rfl (aJ rfl)
   | cons x_21 l_20 =>
    obtain ⟨c_,hc_25,hL_26⟩:=bind_some hL_26
    refine af (aa (ae (vB (decide ((k_19:Int)<(l_1.length:Int)))) wz rfl (ai ?_)))
    refine af (aA rfl (aY hD_22) (au ?_))
    unfold ng at hc_25
    refine af (aD (af (aa (fU qJ rfl rfl (bz hD_22) rfl wz (dn dF fJ rfl (.d (.agg (Alert.enc x_21))) rfl wz (cK 0 (.inl rfl) yh rfl wz (λn_29=>dJ 0 il ft 1 dF rfl rfl [(vS x_21.Id),(vS x_21.Sender),(vI x_21.Kind),(vL eS x_21.Refs),(vI x_21.At),(vI x_21.Until),(vI x_21.Weight),(vL Rect.enc x_21.Areas),(vS x_21.Text)] rfl wz (ai (af (aa (aI kQ rfl 3 rfl wz (aF 0 1 il ft xL zT rfl rfl (vL eS x_21.Refs) rfl wz (bN rA rfl wz (ae (vI 0) wz rfl (ai ?_)))))))))))))))
    obtain ⟨o_38,hj_39,hc_25⟩:=bind_some hc_25
    obtain ⟨hn_34,hj_39⟩:=aU hj_39
    refine aG (β:=((List Int))) (λ(s_35:List Int)=>([(0,(vL Alert.enc l_1)),(3,(gV n_10 1 s_35)),(23,(vL Alert.enc l_1)),(24,(vI (l_1.length:Int))),(25,(vI (k_19:Int)))]:SL_)) (λ(s_35:List Int)=>([(n_10,gB 1 eI s_35),(n_29,some (.cells 9 [(vS x_21.Id),(vS x_21.Sender),(vI x_21.Kind),(vL eS x_21.Refs),(vI x_21.At),(vI x_21.Until),(vI x_21.Weight),(vL Rect.enc x_21.Areas),(vS x_21.Text)]))]:Hp)) (λp=>o_38 = .go p) ?_ ?_
    ·refine aD (bf (β:=Nat×(List ByteArray)×((List Int))) (λp=>(λ(k_30:Nat) (l_31:List ByteArray) (s_35:List Int)=>([(0,(vL Alert.enc l_1)),(3,(gV n_10 1 s_35)),(7,(.ref n_29 0 0)),(23,(vL Alert.enc l_1)),(24,(vI (l_1.length:Int))),(25,(vI (k_19:Int))),(30,(vL eS x_21.Refs)),(31,(vI (x_21.Refs.length:Int))),(32,(vI (k_30:Int)))]:SL_)) p.1 p.2.1 p.2.2) (λp=>(λ(k_30:Nat) (l_31:List ByteArray) (s_35:List Int)=>([(n_10,gB 1 eI s_35),(n_29,some (.cells 9 [(vS x_21.Id),(vS x_21.Sender),(vI x_21.Kind),(vL eS x_21.Refs),(vI x_21.At),(vI x_21.Until),(vI x_21.Weight),(vL Rect.enc x_21.Areas),(vS x_21.Text)]))]:Hp)) p.1 p.2.1 p.2.2) (λp=>forR (λk x s=>lI l_1 x_21 k x s) p.2.1 p.1 p.2.2=some o_38/\(x_21.Refs).drop p.1=p.2.1) (λp=>p.2.1.length) (0,x_21.Refs,s_24) ⟨hj_39,rfl⟩ rfl (aJ rfl) ?_)
     rintro ⟨k_30,l_31,s_35⟩ ⟨hL_37,hD_33⟩
     dsimp only at hL_37 hD_33
     cases l_31 with
     | nil =>
      obtain rfl:=ah hL_37
      refine af (aa (ae (vB (decide ((k_30:Int)<(x_21.Refs.length:Int)))) wz rfl (ai ?_)))
      refine af (ay rfl (drop_nil hD_33) (aW ?_))
      exact aZ (s_35) rfl rfl (aJ rfl)
     | cons x_32 l_31 =>
      obtain ⟨c_,hc_36,hL_37⟩:=bind_some hL_37
      refine af (aa (ae (vB (decide ((k_30:Int)<(x_21.Refs.length:Int)))) wz rfl (ai ?_)))
      refine af (aA rfl (aY hD_33) (au ?_))
      unfold lI at hc_36
      refine af (aD (af (aa (fU jZ rfl rfl (bz hD_33) rfl wz (dn sz9 ag9 rfl (vS x_32) rfl wz (ae (vS x_32) wz rfl (ai (af (aa (ae (vL Alert.enc l_1) wz rfl (aF 0 1 il ft dF fJ rfl rfl (.d (.agg (Alert.enc x_21))) rfl wz (ae (vS x_32) wz rfl ?_))))))))))))
      obtain ⟨r_40,hr_41,hc_36⟩:=bind_some hc_36
      refine aB (Du hr_41) rfl hb179 rfl rfl rfl rfl wz (ae (vI r_40) wz rfl (ai (af (aa (ae (vI r_40) wz rfl (ae (vB (decide (r_40>=0))) wz rfl (ai ?_)))))))
      obtain ⟨v_42,h_43,hc_36⟩:=bind_some hc_36
      refine aG (β:=Unit) (λ_=>([(0,(vL Alert.enc l_1)),(3,(gV n_10 1 v_42)),(7,(.ref n_29 0 0)),(23,(vL Alert.enc l_1)),(24,(vI (l_1.length:Int))),(25,(vI (k_19:Int))),(30,(vL eS x_21.Refs)),(31,(vI (x_21.Refs.length:Int))),(32,(vI (k_30:Int)))]:SL_)) (λ_=>([(n_10,gB 1 eI v_42),(n_29,some (.cells 9 [(vS x_21.Id),(vS x_21.Sender),(vI x_21.Kind),(vL eS x_21.Refs),(vI x_21.At),(vI x_21.Until),(vI x_21.Weight),(vL Rect.enc x_21.Areas),(vS x_21.Text)]))]:Hp)) (λ_=>True) ?_ ?_
      ·rcases ak h_43 with⟨hc_44,h_43⟩|⟨hc_44,h_43⟩
       ·refine aA rfl hc_44 (bR (ae (gV n_10 1 s_35) wz rfl (ae (vI r_40) wz rfl (ae (gV n_10 1 s_35) wz rfl (ae (vI r_40) wz rfl ?_)))))
        obtain ⟨_,hi_45,h_43⟩:=bind_some h_43
        refine Df sQ rfl rfl (qx hi_45) (mq hi_45) wz ?_
        obtain ⟨e_46,hy_47,h_43⟩:=bind_some h_43
        refine oP 5 0 (.inr (by kernel_rfl)) (λ_ _ ag=>trivial) sz3 ag3 rfl rfl hy_47 (vI e_46) rfl wz (aI fq rfl 4 rfl wz (aF 7 1 (.inr (by kernel_rfl)) (λ_ _ ag=>⟨.inl ⟨rfl,rfl⟩,trivial⟩) sz3 ag3 rfl rfl (vI x_21.At) rfl wz (BR (vI (BD e_46 x_21.At)) rfl (.inl rfl) wz ?_)))
        obtain ⟨_,hi_48,h_43⟩:=bind_some h_43
        refine Df sQ rfl rfl (qx hi_48) (mq hi_48) wz ?_
        obtain ⟨e_49,hy_50,h_43⟩:=bind_some h_43
        refine lZ 10 (.inr (by kernel_rfl)) (λ_ _ ag=>⟨.inr (.inr (by kernel_rfl)),⟨.inr (.inr (by kernel_rfl)),trivial⟩⟩) 0 sz3 rfl rfl hy_50 (BD e_46 x_21.At) rfl wz (dK (v':=(gV n_10 1 (s_35.set (0+(r_40).toNat) (BD e_46 x_21.At)))) 3 rfl (bU (by simp)) (dK (v':=(gV n_10 1 (s_35.set (0+(r_40).toNat) (BD e_46 x_21.At)))) 42 rfl (bU (by simp)) (dK (v':=(gV n_10 1 (s_35.set (0+(r_40).toNat) (BD e_46 x_21.At)))) 44 rfl (bU (by simp)) (ai ?_))))
        obtain rfl:=ah h_43
        exact cu
       ·refine ay rfl hc_44 (au ?_)
        obtain rfl:=ah h_43
        exact cu
      ·rintro ⟨⟩ _ sl_ H_ hp_ hq_
       refine aN _ hp_ hq_ (aa (dX (bg hD_33 hn_34) wz rfl (ae (vI ((k_30+1:Nat):Int)) wz rfl (ai ?_))))
       obtain rfl:=ah hc_36
       exact aV (k_30+1,l_31,v_42) ⟨hL_37,aQ hD_33⟩ (ls_ _) rfl (aJ rfl)
    ·rintro s_35 ho_ sl_ H_ hp_ hq_
     subst ho_
     refine aN _ hp_ hq_ (aa (dX (bg hD_22 hn_23) wz rfl (ae (vI ((k_19+1:Nat):Int)) wz rfl (ai ?_))))
     obtain rfl:=ah hc_25
     exact aV (k_19+1,l_20,s_35) ⟨hL_26,aQ hD_22⟩ (ls_ _) rfl (aJ rfl)
  ·rintro s_24 ho_ sl_ H_ hp_ hq_
   subst ho_
   refine aN _ hp_ hq_ (af (aa (ae (gV n_10 1 s_24) wz rfl (ae (gV n_10 1 s_24) wz rfl (ai (jv 0 rfl (gP 2 0 rfl rfl (gP 3 0 rfl rfl (gP 54 0 rfl rfl ?_)))))))))
   obtain rfl:=ah hF
   exact ax (aR (.inr rfl) [(vL eI s_24)] ⟨rfl,trivial⟩ rfl rfl rfl)
theorem yC {r_1:Rect} {p_2:Post} {r:Bool} (hF:lu r_1 p_2=some r) :
  FnM Tryz.prog 183 [(.d (.agg (Rect.enc r_1))),(.ref (av 0) 0 0)] [(.cells 3 [(vS p_2.Player),(vI p_2.X),(vI p_2.Y)])] (vB r) [some (.cells 3 [(vS p_2.Player),(vI p_2.X),(vI p_2.Y)])]:=by
 refine FnM.of_wH ⟨Tryz.prog,36,[],[]⟩ rfl Tryz.func183 rfl rfl (lb_ rfl) (by kernel_rfl) ?_
 unfold lu at hF
 refine af (aa (dW 0 (.inl rfl) [(vI r_1.X),(vI r_1.Y),(vI r_1.W),(vI r_1.H)] rfl rfl wz (λn_3=>ae (vB false) wz rfl (ai (af ?_)))))
 obtain ⟨v_4,h_5,hF⟩:=bind_some hF
 refine aG (β:=Unit) (λ_=>([(3,(vB v_4))]:SL_)) (λ_=>([((av 0),some (.cells 3 [(vS p_2.Player),(vI p_2.X),(vI p_2.Y)])),(n_3,some (.cells 4 [(vI r_1.X),(vI r_1.Y),(vI r_1.W),(vI r_1.H)]))]:Hp)) (λ_=>True) ?_ ?_
 ·refine aa (aI vG rfl 0 rfl wz (aF 0 1 il ft sz3 ag3 rfl rfl (vI r_1.X) rfl wz (aI Ar rfl 1 rfl wz (aF 0 0 il ft sz3 ag3 rfl rfl (vI p_2.X) rfl wz (ae (vB (decide (r_1.X<=p_2.X))) wz rfl ?_)))))
  rcases ak h_5 with⟨hc_6,h_5⟩|⟨hc_6,h_5⟩
  ·refine aC rfl hc_6 wz (aI Ar rfl 1 rfl wa (aF 0 0 il ft sz3 ag3 rfl rfl (vI p_2.X) rfl wa (aI vG rfl 0 rfl wa (aF 0 1 il ft sz3 ag3 rfl rfl (vI r_1.X) rfl wa (aI BG rfl 2 rfl wa (aF 0 1 il ft sz3 ag3 rfl rfl (vI r_1.W) rfl wa (ae (vI (w64 (r_1.X+r_1.W))) wa rfl (ae (vB (decide (p_2.X<(w64 (r_1.X+r_1.W))))) wa rfl (ae (vB (decide (p_2.X<(w64 (r_1.X+r_1.W))))) wz rfl ?_)))))))))
   rcases ak h_5 with⟨hc_7,h_5⟩|⟨hc_7,h_5⟩
   ·refine aC rfl hc_7 wz (aI vk rfl 1 rfl wa (aF 0 1 il ft sz3 ag3 rfl rfl (vI r_1.Y) rfl wa (aI Dc rfl 2 rfl wa (aF 0 0 il ft sz3 ag3 rfl rfl (vI p_2.Y) rfl wa (ae (vB (decide (r_1.Y<=p_2.Y))) wa rfl (ae (vB (decide (r_1.Y<=p_2.Y))) wz rfl ?_))))))
    rcases ak h_5 with⟨hc_8,h_5⟩|⟨hc_8,h_5⟩
    ·refine aC rfl hc_8 wz (aI Dc rfl 2 rfl wa (aF 0 0 il ft sz3 ag3 rfl rfl (vI p_2.Y) rfl wa (aI vk rfl 1 rfl wa (aF 0 1 il ft sz3 ag3 rfl rfl (vI r_1.Y) rfl wa (aI zy rfl 3 rfl wa (aF 0 1 il ft sz3 ag3 rfl rfl (vI r_1.H) rfl wa (ae (vI (w64 (r_1.Y+r_1.H))) wa rfl (ae (vB (decide (p_2.Y<(w64 (r_1.Y+r_1.H))))) wa rfl (ae (vB (decide (p_2.Y<(w64 (r_1.Y+r_1.H))))) wz rfl (ae (vB (decide (p_2.Y<(w64 (r_1.Y+r_1.H))))) wz rfl (ai ?_)))))))))))
     obtain rfl:=ah h_5
     exact cu
    ·refine aC rfl hc_8 wz (aj wa (aj wa (aj wa (aj wa (aj wa (aj wa (aj wa (aj wa (ae (vB false) wz rfl (ae (vB false) wz rfl (ai ?_)))))))))))
     obtain rfl:=ah h_5
     exact cu
   ·refine aC rfl hc_7 wz (aj wa (aj wa (aj wa (aj wa (aj wa (ae (vB false) wz rfl (ae (vB false) wz rfl (aj wa (aj wa (aj wa (aj wa (aj wa (aj wa (aj wa (aj wa (ae (vB false) wz rfl (ae (vB false) wz rfl (ai ?_))))))))))))))))))
    obtain rfl:=ah h_5
    exact cu
  ·refine aC rfl hc_6 wz (aj wa (aj wa (aj wa (aj wa (aj wa (aj wa (aj wa (aj wa (ae (vB false) wz rfl (ae (vB false) wz rfl (aj wa (aj wa (aj wa (aj wa (aj wa (ae (vB false) wz rfl (ae (vB false) wz rfl (aj wa (aj wa (aj wa (aj wa (aj wa (aj wa ?_)))))))))))))))))))))))
   refine aj wa (aj wa (ae (vB false) wz rfl (ae (vB false) wz rfl (ai ?_))))
   obtain rfl:=ah h_5
   exact cu
 ·rintro ⟨⟩ _ sl_ H_ hp_ hq_
  refine aN _ hp_ hq_ ?_
  obtain rfl:=ah hF
  exact ax (rW (.inr rfl) [(vB v_4)] _ [0] [av 0] ⟨rfl,trivial⟩ (.cons (gH rfl rfl) (.nil)) (by kernel_rfl) ⟨(by kernel_rfl),trivial⟩ (by decide) (by kernel_rfl))
theorem mJ {s_1:(List Rect)} {f_2:Rect->Option Bool} {r:Int} {gid:FuncId} {caps:List V} {Sin:List Box} (hfn:∀x0 r,f_2 x0=some r->FnM Tryz.prog gid ([(.d (.agg (Rect.enc x0)))]++caps) Sin (vB r) (Sin.map some)) (hbF:aH Tryz.prog gid=true) (hcapF:caps.flatMap frz=[]/\caps.map co0=caps) (hokF:okL Sin.length caps=true) (hsF:∀b∈Sin,b.ok Sin.length=true) (hmF:∀b∈Sin,b.mut=true) (hF:eU s_1 f_2=some r) :
  FnM Tryz.prog 249 [(vL Rect.enc s_1),(.fn gid caps)] Sin (vI r) (Sin.map some):=by
 refine FnM.of_wH ⟨Tryz.prog,19,[],[]⟩ rfl Tryz.func249 rfl rfl (lb_ rfl) (by kernel_rfl) ?_
 unfold eU at hF
 refine af (aa (ae (vI 0) wz rfl (ai (af (af (aa (ae (vL Rect.enc s_1) wz rfl (bN H9 rfl wz (ae (vI 0) wz rfl (ai ?_))))))))))
 obtain ⟨o_11,hj_12,hF⟩:=bind_some hF
 obtain ⟨hn_7,hj_12⟩:=aU hj_12
 refine aG (β:=(Unit)) (λ(s_8:Unit)=>([]:SL_)) (λ(s_8:Unit)=>(mO 0 Sin)) (λp=>o_11 = .go p) ?_ ?_
 ·refine aD (bf (β:=Nat×(List Rect)×(Unit)) (λp=>(λ(k_3:Nat) (l_4:List Rect) (s_8:Unit)=>([(0,(vL Rect.enc s_1)),(1,(.fn gid caps)),(7,(vI (s_1.length:Int))),(8,(vI (k_3:Int)))]:SL_)) p.1 p.2.1 p.2.2) (λp=>(λ(k_3:Nat) (l_4:List Rect) (s_8:Unit)=>(mO 0 Sin)) p.1 p.2.1 p.2.2) (λp=>forR (λk x s=>bB f_2 k x s) p.2.1 p.1 p.2.2=some o_11/\(s_1).drop p.1=p.2.1) (λp=>p.2.1.length) (0,s_1,()) ⟨hj_12,rfl⟩ rfl (oL _) ?_)
  rintro ⟨k_3,l_4,s_8⟩ ⟨hL_10,hD_6⟩
  dsimp only at hL_10 hD_6
  cases l_4 with
  | nil =>
   obtain rfl:=ah hL_10
   refine af (aa (ae (vB (decide ((k_3:Int)<(s_1.length:Int)))) wz rfl (ai ?_)))
   refine af (ay rfl (drop_nil hD_6) (aW ?_))
   exact aZ (s_8) rfl rfl (oL _)
  | cons x_5 l_4 =>
   obtain ⟨c_,hc_9,hL_10⟩:=bind_some hL_10
   refine af (aa (ae (vB (decide ((k_3:Int)<(s_1.length:Int)))) wz rfl (ai ?_)))
   refine af (aA rfl (aY hD_6) (au ?_))
   unfold bB at hc_9
   refine af (aD (af (aa (ae (vI (k_3:Int)) wz rfl (ae (vI (k_3:Int)) wz rfl (ai (af (aa (ae (.fn gid caps) wz rfl (ae (vL Rect.enc s_1) wz rfl (ae (vI (k_3:Int)) wz rfl (fU Kw rfl rfl (bz hD_6) rfl wz (dn u7 Dn rfl (.d (.agg (Rect.enc x_5))) rfl wz ?_)))))))))))))
   obtain ⟨r_13,hr_14,hc_9⟩:=bind_some hc_9
   refine xB (hfn _ _ hr_14) rfl hbF rfl rfl hcapF hokF hsF hmF rfl wz rfl (ai ?_)
   rcases ak hc_9 with⟨hc_15,hc_9⟩|⟨hc_15,hc_9⟩
   ·refine aA rfl hc_15 (af (aa (ae (vI (k_3:Int)) wz rfl (ae (vI (k_3:Int)) wz rfl (ai ?_)))))
    obtain rfl:=ah hc_9
    obtain rfl:=ah hL_10
    obtain rfl:=ah hF
    exact ax (E8 hsF (.inr rfl) [(vI (k_3:Int))] ⟨rfl,trivial⟩ rfl rfl rfl)
   ·refine ay rfl hc_15 (au (aa (dX (bg hD_6 hn_7) wz rfl (ae (vI ((k_3+1:Nat):Int)) wz rfl (ai ?_)))))
    obtain rfl:=ah hc_9
    exact aV (k_3+1,l_4,()) ⟨hL_10,aQ hD_6⟩ (ls_ _) rfl (oL _)
 ·rintro s_8 ho_ sl_ H_ hp_ hq_
  subst ho_
  refine aN _ hp_ hq_ (af (aa (ae (vI (-1)) wz rfl (ai ?_))))
  obtain rfl:=ah hF
  exact ax (E8 hsF (.inr rfl) [(vI (-1))] ⟨rfl,trivial⟩ rfl rfl rfl)
theorem iE {s_1:(List Rect)} {f_2:Rect->Option Bool} {r:Bool} {gid:FuncId} {caps:List V} {Sin:List Box} (hfn:∀x0 r,f_2 x0=some r->FnM Tryz.prog gid ([(.d (.agg (Rect.enc x0)))]++caps) Sin (vB r) (Sin.map some)) (hbF:aH Tryz.prog gid=true) (hcapF:caps.flatMap frz=[]/\caps.map co0=caps) (hokF:okL Sin.length caps=true) (hsF:∀b∈Sin,b.ok Sin.length=true) (hmF:∀b∈Sin,b.mut=true) (hF:bP s_1 f_2=some r) :
  FnM Tryz.prog 182 [(vL Rect.enc s_1),(.fn gid caps)] Sin (vB r) (Sin.map some):=by
 refine FnM.of_wH ⟨Tryz.prog,9,[],[]⟩ rfl Tryz.func182 rfl rfl (lb_ rfl) (by kernel_rfl) ?_
 unfold bP at hF
 refine af (aa (ae (vB false) wz rfl (ai (af (aa (ae (vL Rect.enc s_1) wz rfl (ae (.fn gid caps) wz rfl ?_)))))))
 obtain ⟨r_3,hr_4,hF⟩:=bind_some hF
 refine xB (mJ (gid:=gid) (caps:=caps) (Sin:=Sin) hfn hbF hcapF hokF hsF hmF hr_4) rfl hb249 rfl rfl ⟨rfl,rfl⟩ (by simp [okL,okV,hokF]) hsF hmF rfl wz rfl (ae (vB (decide (r_3>=0))) wz rfl (ae (vB (decide (r_3>=0))) wz rfl (ai ?_)))
 obtain rfl:=ah hF
 exact ax (E8 hsF (.inr rfl) [(vB (decide (r_3>=0)))] ⟨rfl,trivial⟩ rfl rfl rfl)
theorem pu {a_1:Alert} {p_2:Post} {r:Bool} (hF:jo a_1 p_2=some r) :
  FnM Tryz.prog 109 [(.d (.agg (Alert.enc a_1))),(.d (.agg (Post.enc p_2)))] [] (vB r) []:=by
 refine FnM.of_wH ⟨Tryz.prog,9,[],[]⟩ rfl Tryz.func109 rfl rfl (lb_ rfl) (by kernel_rfl) ?_
 unfold jo at hF
 refine af (aa (dW 0 (.inl rfl) [(vS a_1.Id),(vS a_1.Sender),(vI a_1.Kind),(vL eS a_1.Refs),(vI a_1.At),(vI a_1.Until),(vI a_1.Weight),(vL Rect.enc a_1.Areas),(vS a_1.Text)] rfl rfl wz (λn_3=>dW 0 (.inl rfl) [(vS p_2.Player),(vI p_2.X),(vI p_2.Y)] rfl rfl wz (λn_4=>ae (vB false) wz rfl (ai (af (aa (aI oF rfl 7 rfl wz (aF 0 0 il ft BQ EE rfl rfl (vL Rect.enc a_1.Areas) rfl wz (ae (.fn 183 [(.ref n_4 0 0)]) wz rfl ?_))))))))))
 obtain ⟨r_5,hr_6,hF⟩:=bind_some hF
 refine aS 0 [1] il ft (iE (gid:=183) (caps:=[.ref (av 0) 0 0]) (Sin:=[(.cells 3 [(vS p_2.Player),(vI p_2.X),(vI p_2.Y)])]) (λ_ _ h_=>yC h_) hb183 ⟨rfl,rfl⟩ (by kernel_rfl) (yB (by kernel_rfl)) (uY (by kernel_rfl)) hr_6) rfl hb182 rfl (by kernel_rfl) (by kernel_rfl) (by kernel_rfl) (by kernel_rfl) (by kernel_rfl) (by kernel_rfl) (by kernel_rfl) (by decide) (by kernel_rfl) wz (vB r_5) (by kernel_rfl) ([(n_3,some (.cells 9 [(vS a_1.Id),(vS a_1.Sender),(vI a_1.Kind),(vL eS a_1.Refs),(vI a_1.At),(vI a_1.Until),(vI a_1.Weight),(vL Rect.enc a_1.Areas),(vS a_1.Text)])),(n_4,some (.cells 3 [(vS p_2.Player),(vI p_2.X),(vI p_2.Y)]))]:Hp) (by kernel_rfl) (ae (vB r_5) wz rfl (ai ?_))
 obtain rfl:=ah hF
 exact ax (aR (.inr rfl) [(vB r_5)] ⟨rfl,trivial⟩ rfl rfl rfl)
theorem vJ {a_1:Alert} {endv_2:Int} {p_3:Post} {atv_4:Int} {r:Bool} (hF:mG a_1 endv_2 p_3 atv_4=some r) :
  FnM Tryz.prog 104 [(.d (.agg (Alert.enc a_1))),(vI endv_2),(.d (.agg (Post.enc p_3))),(vI atv_4)] [] (vB r) []:=by
 refine FnM.of_wH ⟨Tryz.prog,29,[],[]⟩ rfl Tryz.func104 rfl rfl (lb_ rfl) (by kernel_rfl) ?_
 unfold mG at hF
 refine af (aa (dW 0 (.inl rfl) [(vS a_1.Id),(vS a_1.Sender),(vI a_1.Kind),(vL eS a_1.Refs),(vI a_1.At),(vI a_1.Until),(vI a_1.Weight),(vL Rect.enc a_1.Areas),(vS a_1.Text)] rfl rfl wz (λn_5=>dW 0 (.inl rfl) [(vS p_3.Player),(vI p_3.X),(vI p_3.Y)] rfl rfl wz (λn_6=>ae (vB false) wz rfl (ai (af ?_))))))
 obtain ⟨v_7,h_8,hF⟩:=bind_some hF
 refine aG (β:=Unit) (λ_=>([(8,(vB v_7))]:SL_)) (λ_=>([(n_5,some (.cells 9 [(vS a_1.Id),(vS a_1.Sender),(vI a_1.Kind),(vL eS a_1.Refs),(vI a_1.At),(vI a_1.Until),(vI a_1.Weight),(vL Rect.enc a_1.Areas),(vS a_1.Text)])),(n_6,some (.cells 3 [(vS p_3.Player),(vI p_3.X),(vI p_3.Y)]))]:Hp)) (λ_=>True) ?_ ?_
 ·refine aa (aI lQ rfl 2 rfl wz (aF 0 0 il ft sz3 ag3 rfl rfl (vI a_1.Kind) rfl wz (ae (vB (a_1.Kind != 3)) wz rfl ?_)))
  rcases ak h_8 with⟨hc_9,h_8⟩|⟨hc_9,h_8⟩
  ·refine aC rfl hc_9 wz (aI fq rfl 4 rfl wa (aF 0 0 il ft sz3 ag3 rfl rfl (vI a_1.At) rfl wa (ae (vI atv_4) wa rfl (ae (vB (decide (a_1.At<=atv_4))) wa rfl (ae (vB (decide (a_1.At<=atv_4))) wz rfl ?_)))))
   rcases ak h_8 with⟨hc_10,h_8⟩|⟨hc_10,h_8⟩
   ·refine aC rfl hc_10 wz (aI fq rfl 4 rfl wa (aF 0 0 il ft sz3 ag3 rfl rfl (vI a_1.At) rfl wa (ae (vI endv_2) wa rfl (ae (vB (decide (a_1.At<endv_2))) wa rfl (ae (vB (decide (a_1.At<endv_2))) wz rfl ?_)))))
    rcases ak h_8 with⟨hc_11,h_8⟩|⟨hc_11,h_8⟩
    ·refine aC rfl hc_11 wz (aF 0 0 il ft dF fJ rfl rfl (.d (.agg (Alert.enc a_1))) rfl wa (aF 0 1 il ft pg vX rfl rfl (.d (.agg (Post.enc p_3))) rfl wa ?_))
     obtain ⟨r_12,hr_13,h_8⟩:=bind_some h_8
     refine aB (pu hr_13) rfl MO rfl rfl rfl rfl wa (ae (vB r_12) wz rfl (ae (vB r_12) wz rfl (ai ?_)))
     obtain rfl:=ah h_8
     exact cu
    ·refine aC rfl hc_11 wz (aj wa (aj wa (aj wa (ae (vB false) wz rfl (ae (vB false) wz rfl (ai ?_))))))
     obtain rfl:=ah h_8
     exact cu
   ·refine aC rfl hc_10 wz (aj wa (aj wa (aj wa (aj wa (ae (vB false) wz rfl (ae (vB false) wz rfl (aj wa (aj wa (aj wa (ae (vB false) wz rfl (ae (vB false) wz rfl (ai ?_))))))))))))
    obtain rfl:=ah h_8
    exact cu
  ·refine aC rfl hc_9 wz (aj wa (aj wa (aj wa (aj wa (ae (vB false) wz rfl (ae (vB false) wz rfl (aj wa (aj wa (aj wa (aj wa (ae (vB false) wz rfl (ae (vB false) wz rfl (aj wa (aj wa (aj wa (ae (vB false) wz rfl (ae (vB false) wz rfl (ai ?_))))))))))))))))))
   obtain rfl:=ah h_8
   exact cu
 ·rintro ⟨⟩ _ sl_ H_ hp_ hq_
  refine aN _ hp_ hq_ ?_
  obtain rfl:=ah hF
  exact ax (aR (.inr rfl) [(vB v_7)] ⟨rfl,trivial⟩ rfl rfl rfl)
section
variable [dM:DM]
theorem zU {a_1:Debt} {b_2:Debt} {r:Int} (hF:jk a_1 b_2=some r) :
  FnM Tryz.prog 106 [(.d (.agg (Debt.enc a_1))),(.d (.agg (Debt.enc b_2)))] [] (vI r) []:=by
 refine FnM.of_wH ⟨Tryz.prog,17,[],[]⟩ rfl Tryz.func106 rfl rfl (lb_ rfl) (by kernel_rfl) ?_
 unfold jk at hF
 refine af (aa (dW 0 (.inl rfl) [(vS a_1.Player),(vS a_1.Alert),(vI a_1.Due),(vI a_1.Got)] rfl rfl wz (λn_3=>dW 0 (.inl rfl) [(vS b_2.Player),(vS b_2.Alert),(vI b_2.Due),(vI b_2.Got)] rfl rfl wz (λn_4=>ae (vI 0) wz rfl (ai (af (bR (aI EJ rfl 0 rfl wz (aF 1 0 (.inr (by kernel_rfl)) (λ_ _ ag=>trivial) sz9 ag9 rfl rfl (vS a_1.Player) rfl wz (aI EJ rfl 0 rfl wz (aF 3 1 (.inr (by kernel_rfl)) (λ_ _ ag=>⟨.inl ⟨rfl,rfl⟩,trivial⟩) sz9 ag9 rfl rfl (vS b_2.Player) rfl wz ?_)))))))))))
 obtain ⟨r_5,hr_6,hF⟩:=bind_some hF
 refine aB (iG hr_6) rfl Ez rfl rfl rfl rfl wz (aI Fy rfl 1 rfl wz (aF 6 0 (.inr (by kernel_rfl)) (λ_ _ ag=>⟨.inl ⟨rfl,rfl⟩,⟨.inl ⟨rfl,rfl⟩,trivial⟩⟩) sz9 ag9 rfl rfl (vS a_1.Alert) rfl wz (aI Fy rfl 1 rfl wz (aF 8 1 (.inr (by kernel_rfl)) (λ_ _ ag=>⟨.inl ⟨rfl,rfl⟩,⟨.inl ⟨rfl,rfl⟩,⟨.inl ⟨rfl,rfl⟩,trivial⟩⟩⟩) sz9 ag9 rfl rfl (vS b_2.Alert) rfl wz ?_))))
 obtain ⟨r_7,hr_8,hF⟩:=bind_some hF
 refine aB (iG hr_8) rfl Ez rfl rfl rfl rfl wz (dQ (([r_5,r_7]:List Int).map eI) sQ zW rfl rfl rfl rfl rfl wz ?_)
 obtain ⟨r_9,hr_10,hF⟩:=bind_some hF
 refine aB (pX hr_10) rfl JZ rfl rfl rfl rfl wz (ae (vI r_9) wz rfl (ai ?_))
 obtain rfl:=ah hF
 exact ax (aR (.inr rfl) [(vI r_9)] ⟨rfl,trivial⟩ rfl rfl rfl)
end
theorem oU {x r:(List Debt)} (hF:dh x=some r) :
  FnM Tryz.prog 105 [(dV (av 0) 4 x),(.fn 106 [])] (([]:List Box)++gI 4 Debt.enc x) (.tup []) (([]:List Box).map some++gT x (gB 4 Debt.enc r)) :=
 xx (E:=Debt.enc) (F:=λa b=>jk a b) (λ_=>rfl) (λa b r h=>zU (dM:=dmT) h) hb106 (λβ _ enc hk h1 cf hO g cb blk off cap d w eg hcmp hH hblk hsz=>Tryz.slices_SortFunc_eq_f105 4 Tryz.isAgg96 Tryz.sizeOf96 enc hk h1 cf hO g cb blk off cap d w eg hcmp hH hblk hsz) (λp cap fv w=>Tryz.slices_SortFunc_none_f105 (α:=Nat) p cap fv w) hF
theorem CX {l_1:(List Alert)} {posts_2:(List Post)} {r_3:(List Receipt)} {inv_4:Int} {atv_5:Int} {r:(List Debt)×Int} (hF:qf l_1 posts_2 r_3 inv_4 atv_5=some r) :
  FnM Tryz.prog 40 [(vL Alert.enc l_1),(vL Post.enc posts_2),(vL Receipt.enc r_3),(vI inv_4),(vI atv_5)] [] (.tup [(vL Debt.enc r.1),(vI r.2)]) []:=by
 refine FnM.of_wH ⟨Tryz.prog,122,[],[]⟩ rfl Tryz.func40 rfl rfl (lb_ rfl) (by kernel_rfl) ?_
 unfold qf at hF
 refine af (aa (ae .nil wz rfl (ae (vI 0) wz rfl (ai (af (af (aa (ae (vL Alert.enc l_1) wz rfl (ae (vL Post.enc posts_2) wz rfl (ae (vL Receipt.enc r_3) wz rfl ?_))))))))))
 obtain ⟨r_6,hr_7,hF⟩:=bind_some hF
 refine aB (oK hr_7) rfl LC rfl rfl rfl rfl wz (ae (vI r_6) wz rfl (ai (af (aa (ae (vI r_6) wz rfl (ae (vB (r_6 != 0)) wz rfl (ai ?_)))))))
 rcases ak hF with⟨hc_8,hF⟩|⟨hc_8,hF⟩
 ·refine aA rfl hc_8 (af (aa (ae (vI r_6) wz rfl (ae .nil wz rfl (ae (vI r_6) wz rfl (ai ?_))))))
  obtain rfl:=ah hF
  exact ax (aR (.inr rfl) [.nil,(vI r_6)] ⟨rfl,⟨rfl,trivial⟩⟩ rfl rfl rfl)
 ·refine ay rfl hc_8 (au (af (af ?_)))
  obtain ⟨v_9,h_10,hF⟩:=bind_some hF
  refine aG (β:=Unit) (λ_=>([(0,(vL Alert.enc l_1)),(1,(vL Post.enc posts_2)),(2,(vL Receipt.enc r_3)),(3,(vI inv_4)),(4,(vI atv_5)),(36,(vB v_9))]:SL_)) (λ_=>([]:Hp)) (λ_=>True) ?_ ?_
  ·refine aa (ae (vI inv_4) wz rfl ?_)
   obtain ⟨r_11,hr_12,h_10⟩:=bind_some h_10
   refine aB (fM hr_12) rfl BC rfl rfl rfl rfl wz ?_
   rcases ak h_10 with⟨hc_13,h_10⟩|⟨hc_13,h_10⟩
   ·refine aC rfl hc_13 wz (aj wa (aj wa (aj wa (ae (vB true) wz rfl (ai ?_)))))
    obtain rfl:=ah h_10
    exact cu
   ·refine aC rfl hc_13 wz (ae (vI atv_5) wa rfl ?_)
    obtain ⟨r_14,hr_15,h_10⟩:=bind_some h_10
    refine aB (kZ hr_15) rfl Gl rfl rfl rfl rfl wa (ae (vB (!r_14)) wa rfl (ae (vB (!r_14)) wz rfl (ai ?_)))
    obtain rfl:=ah h_10
    exact cu
  ·rintro ⟨⟩ _ sl_ H_ hp_ hq_
   refine aN _ hp_ hq_ ?_
   rcases ak hF with⟨hc_16,hF⟩|⟨hc_16,hF⟩
   ·refine aA rfl hc_16 (af (aa (ae .nil wz rfl (ae (vI 1) wz rfl (ai ?_)))))
    obtain rfl:=ah hF
    exact ax (aR (.inr rfl) [.nil,(vI 1)] ⟨rfl,⟨rfl,trivial⟩⟩ rfl rfl rfl)
   ·refine ay rfl hc_16 (au (af (aa (ae (vL Receipt.enc r_3) wz rfl (ae (vI atv_5) wz rfl ?_)))))
    obtain ⟨r_17,hr_18,hF⟩:=bind_some hF
    refine Jo [] 1 (wT hr_18) rfl hb102 rfl (by kernel_rfl) (by kernel_rfl) (by kernel_rfl) (by kernel_rfl) (by kernel_rfl) (by kernel_rfl) (by kernel_rfl) (by decide) (by kernel_rfl) (by kernel_rfl) wz (λnu_19=>(.map (nu_19 0))) (λ_=>by kernel_rfl) (λnu_19=>([((nu_19 0),some (bM (λx=>D.agg (Pair.enc x)) (D.int .i64) r_17))]:Hp)) (λ_=>by kernel_rfl) ?_
    intro nu_19
    refine ae (.map (nu_19 0)) wz rfl (ai (af (aa (ae (vL Alert.enc l_1) wz rfl ?_))))
    obtain ⟨r_20,hr_21,hF⟩:=bind_some hF
    refine aB (tF hr_21) rfl Mf rfl rfl rfl rfl wz (ae (vL eI r_20) wz rfl (ai (af (aa (ae .nil wz rfl (ai (af (af (aa (ae (vL Post.enc posts_2) wz rfl (bN AY rfl wz (ae (vI 0) wz rfl (ai (rF (λn_28 => ?_)))))))))))))))
    obtain ⟨o_33,hj_34,hF⟩:=bind_some hF
    obtain ⟨hn_26,hj_34⟩:=aU hj_34
    refine aG (β:=((List Debt))×Nm) (λp=>(λ(s_27:List Debt) (n_30:Nm)=>([(15,(gV n_30 4 s_27))]:SL_)) p.1 p.2) (λp=>(λ(s_27:List Debt) (n_30:Nm)=>([((nu_19 0),some (bM (λx=>D.agg (Pair.enc x)) (D.int .i64) r_17)),(n_30,gB 4 Debt.enc s_27)]:Hp)) p.1 p.2) (λp=>o_33 = .go p.1) ?_ ?_
    ·refine aD (bf (β:=Nat×(List Post)×((List Debt))×Nm) (λp=>(λ(k_22:Nat) (l_23:List Post) (s_27:List Debt) (n_30:Nm)=>([(0,(vL Alert.enc l_1)),(3,(vI inv_4)),(4,(vI atv_5)),(13,(.map (nu_19 0))),(14,(vL eI r_20)),(15,(gV n_30 4 s_27)),(42,(vL Post.enc posts_2)),(43,(vI (posts_2.length:Int))),(44,(vI (k_22:Int)))]:SL_)) p.1 p.2.1 p.2.2.1 p.2.2.2) (λp=>(λ(k_22:Nat) (l_23:List Post) (s_27:List Debt) (n_30:Nm)=>([((nu_19 0),some (bM (λx=>D.agg (Pair.enc x)) (D.int .i64) r_17)),(n_30,gB 4 Debt.enc s_27)]:Hp)) p.1 p.2.1 p.2.2.1 p.2.2.2) (λp=>forR (λk x s=>l7 l_1 r_20 atv_5 inv_4 r_17 k x s) p.2.1 p.1 p.2.2.1=some o_33/\(posts_2).drop p.1=p.2.1) (λp=>p.2.1.length) (0,posts_2,([]:List Debt),n_28) ⟨hj_34,rfl⟩ rfl (aJ rfl) ?_)
     rintro ⟨k_22,l_23,s_27,n_30⟩ ⟨hL_32,hD_25⟩
     dsimp only at hL_32 hD_25
     cases l_23 with
     | nil =>
      obtain rfl:=ah hL_32
      refine af (aa (ae (vB (decide ((k_22:Int)<(posts_2.length:Int)))) wz rfl (ai ?_)))
      refine af (ay rfl (drop_nil hD_25) (aW ?_))
      exact aZ (s_27,n_30) rfl rfl (aJ rfl)
     | cons x_24 l_23 =>
      obtain ⟨c_,hc_31,hL_32⟩:=bind_some hL_32
      refine af (aa (ae (vB (decide ((k_22:Int)<(posts_2.length:Int)))) wz rfl (ai ?_)))
      refine af (aA rfl (aY hD_25) (au ?_))
      unfold l7 at hc_31
      refine af (aD (af (aa (fU A9 rfl rfl (bz hD_25) rfl wz (dn pg vX rfl (.d (.agg (Post.enc x_24))) rfl wz (cK 0 (.inl rfl) z66 rfl wz (λn_35=>dJ 0 il ft 2 pg rfl rfl [(vS x_24.Player),(vI x_24.X),(vI x_24.Y)] rfl wz (ai (af (aa (ae (vL Alert.enc l_1) wz rfl (bN uT rfl wz (ae (vI 0) wz rfl (ai ?_))))))))))))))
      obtain ⟨o_46,hj_47,hc_31⟩:=bind_some hc_31
      obtain ⟨hn_40,hj_47⟩:=aU hj_47
      refine aG (β:=((List Debt))×Nm) (λp=>(λ(s_41:List Debt) (n_43:Nm)=>([(0,(vL Alert.enc l_1)),(3,(vI inv_4)),(4,(vI atv_5)),(13,(.map (nu_19 0))),(14,(vL eI r_20)),(15,(gV n_43 4 s_41)),(42,(vL Post.enc posts_2)),(43,(vI (posts_2.length:Int))),(44,(vI (k_22:Int)))]:SL_)) p.1 p.2) (λp=>(λ(s_41:List Debt) (n_43:Nm)=>([((nu_19 0),some (bM (λx=>D.agg (Pair.enc x)) (D.int .i64) r_17)),(n_43,gB 4 Debt.enc s_41),(n_35,some (.cells 3 [(vS x_24.Player),(vI x_24.X),(vI x_24.Y)]))]:Hp)) p.1 p.2) (λp=>o_46 = .go p.1) ?_ ?_
      ·refine aD (bf (β:=Nat×(List Alert)×((List Debt))×Nm) (λp=>(λ(k_36:Nat) (l_37:List Alert) (s_41:List Debt) (n_43:Nm)=>([(0,(vL Alert.enc l_1)),(3,(vI inv_4)),(4,(vI atv_5)),(13,(.map (nu_19 0))),(14,(vL eI r_20)),(15,(gV n_43 4 s_41)),(17,(.ref n_35 0 0)),(42,(vL Post.enc posts_2)),(43,(vI (posts_2.length:Int))),(44,(vI (k_22:Int))),(48,(vL Alert.enc l_1)),(49,(vI (l_1.length:Int))),(50,(vI (k_36:Int)))]:SL_)) p.1 p.2.1 p.2.2.1 p.2.2.2) (λp=>(λ(k_36:Nat) (l_37:List Alert) (s_41:List Debt) (n_43:Nm)=>([((nu_19 0),some (bM (λx=>D.agg (Pair.enc x)) (D.int .i64) r_17)),(n_43,gB 4 Debt.enc s_41),(n_35,some (.cells 3 [(vS x_24.Player),(vI x_24.X),(vI x_24.Y)]))]:Hp)) p.1 p.2.1 p.2.2.1 p.2.2.2) (λp=>forR (λk x s=>kH r_20 x_24 atv_5 inv_4 r_17 k x s) p.2.1 p.1 p.2.2.1=some o_46/\(l_1).drop p.1=p.2.1) (λp=>p.2.1.length) (0,l_1,s_27,n_30) ⟨hj_47,rfl⟩ rfl (aJ rfl) ?_)
       rintro ⟨k_36,l_37,s_41,n_43⟩ ⟨hL_45,hD_39⟩
       dsimp only at hL_45 hD_39
       cases l_37 with
       | nil =>
        obtain rfl:=ah hL_45
        refine af (aa (ae (vB (decide ((k_36:Int)<(l_1.length:Int)))) wz rfl (ai ?_)))
        refine af (ay rfl (drop_nil hD_39) (aW ?_))
        exact aZ (s_41,n_43) rfl rfl (aJ rfl)
       | cons x_38 l_37 =>
        obtain ⟨c_,hc_44,hL_45⟩:=bind_some hL_45
        refine af (aa (ae (vB (decide ((k_36:Int)<(l_1.length:Int)))) wz rfl (ai ?_)))
        refine af (aA rfl (aY hD_39) (au ?_))
        unfold kH at hc_44
        refine af (aD (af (aa (ae (vI (k_36:Int)) wz rfl (fU qJ rfl rfl (bz hD_39) rfl wz (dn dF fJ rfl (.d (.agg (Alert.enc x_38))) rfl wz (cK 0 (.inl rfl) yh rfl wz (λn_48=>ae (vI (k_36:Int)) wz rfl (dJ 0 il ft 3 dF rfl rfl [(vS x_38.Id),(vS x_38.Sender),(vI x_38.Kind),(vL eS x_38.Refs),(vI x_38.At),(vI x_38.Until),(vI x_38.Weight),(vL Rect.enc x_38.Areas),(vS x_38.Text)] rfl wz (ai (af (aa (aI fq rfl 4 rfl wz (aF 0 3 il ft sz3 ag3 rfl rfl (vI x_38.At) rfl wz (ae (vI inv_4) wz rfl (ae (vI (w64 (x_38.At+inv_4))) wz rfl (ae (vI (w64 (x_38.At+inv_4))) wz rfl (ai (af (af ?_))))))))))))))))))))
        obtain ⟨v_49,h_50,hc_44⟩:=bind_some hc_44
        refine aG (β:=Unit) (λ_=>([(0,(vL Alert.enc l_1)),(3,(vI inv_4)),(4,(vI atv_5)),(13,(.map (nu_19 0))),(14,(vL eI r_20)),(15,(gV n_43 4 s_41)),(17,(.ref n_35 0 0)),(19,(.ref n_48 0 0)),(20,(vI (w64 (x_38.At+inv_4)))),(42,(vL Post.enc posts_2)),(43,(vI (posts_2.length:Int))),(44,(vI (k_22:Int))),(48,(vL Alert.enc l_1)),(49,(vI (l_1.length:Int))),(50,(vI (k_36:Int))),(80,(vB v_49))]:SL_)) (λ_=>([((nu_19 0),some (bM (λx=>D.agg (Pair.enc x)) (D.int .i64) r_17)),(n_43,gB 4 Debt.enc s_41),(n_35,some (.cells 3 [(vS x_24.Player),(vI x_24.X),(vI x_24.Y)])),(n_48,some (.cells 9 [(vS x_38.Id),(vS x_38.Sender),(vI x_38.Kind),(vL eS x_38.Refs),(vI x_38.At),(vI x_38.Until),(vI x_38.Weight),(vL Rect.enc x_38.Areas),(vS x_38.Text)]))]:Hp)) (λ_=>True) ?_ ?_
        ·refine bR (aF 0 3 (.inr (by kernel_rfl)) (λ_ _ ag=>trivial) dF fJ rfl rfl (.d (.agg (Alert.enc x_38))) rfl wz (ae (vL eI r_20) wz rfl (ae (vI (k_36:Int)) wz rfl ?_)))
         obtain ⟨y_51,hy_52,h_50⟩:=bind_some h_50
         refine fU sQ rfl rfl hy_52 rfl wz (dn sz3 ag3 rfl (vI y_51) rfl wz (aF 5 2 (.inr (by kernel_rfl)) (λ_ _ ag=>⟨.inl ⟨rfl,rfl⟩,trivial⟩) pg vX rfl rfl (.d (.agg (Post.enc x_24))) rfl wz (ae (vI atv_5) wz rfl ?_)))
         obtain ⟨r_53,hr_54,h_50⟩:=bind_some h_50
         refine aB (vJ hr_54) rfl hb104 rfl rfl rfl rfl wz (ae (vB (!r_53)) wz rfl ?_)
         rcases ak h_50 with⟨hc_55,h_50⟩|⟨hc_55,h_50⟩
         ·refine aC rfl hc_55 wz (aj wa (aj wa (aj wa (ae (vB true) wz rfl (ae (vB true) wz rfl (aj wa (aj wa (aj wa (aj wa (aj wa (aj wa (ae (vB true) wz rfl (ai ?_)))))))))))))
          obtain rfl:=ah h_50
          exact cu
         ·refine aC rfl hc_55 wz (ae (vI (w64 (x_38.At+inv_4))) wa rfl (ae (vI atv_5) wa rfl (ae (vB (decide ((w64 (x_38.At+inv_4))>=atv_5))) wa rfl (ae (vB (decide ((w64 (x_38.At+inv_4))>=atv_5))) wz rfl ?_))))
          rcases ak h_50 with⟨hc_56,h_50⟩|⟨hc_56,h_50⟩
          ·refine aC rfl hc_56 wz (aj wa (aj wa (aj wa (aj wa (aj wa (aj wa (ae (vB true) wz rfl (ai ?_))))))))
           obtain rfl:=ah h_50
           exact cu
          ·refine aC rfl hc_56 wz (ae (vL eI r_20) wa rfl (ae (vI (k_36:Int)) wa rfl ?_))
           obtain ⟨y_57,hy_58,h_50⟩:=bind_some h_50
           refine fU sQ rfl rfl hy_58 rfl wa (dn sz3 ag3 rfl (vI y_57) rfl wa (ae (vI (w64 (x_38.At+inv_4))) wa rfl (ae (vB (decide (y_57<(w64 (x_38.At+inv_4))))) wa rfl (ae (vB (decide (y_57<(w64 (x_38.At+inv_4))))) wz rfl (ai ?_)))))
           obtain rfl:=ah h_50
           exact cu
        ·rintro ⟨⟩ _ sl_ H_ hp_ hq_
         refine aN _ hp_ hq_ ?_
         rcases ak hc_44 with⟨hc_59,hc_44⟩|⟨hc_59,hc_44⟩
         ·refine aA rfl hc_59 (aW (aa (dX (bg hD_39 hn_40) wz rfl (ae (vI ((k_36+1:Nat):Int)) wz rfl (ai ?_)))))
          obtain rfl:=ah hc_44
          exact aV (k_36+1,l_37,s_41,n_43) ⟨hL_45,aQ hD_39⟩ (ls_ _) rfl (aJ rfl)
         ·refine ay rfl hc_59 (au (af (aa (ae (.map (nu_19 0)) wz rfl (aI mg rfl 0 rfl wz (aF 0 2 il ft sz9 ag9 rfl rfl (vS x_24.Player) rfl wz (aI eD rfl 0 rfl wz (aF 0 3 il ft sz9 ag9 rfl rfl (vS x_38.Id) rfl wz (ae (.d (.agg (Pair.enc (⟨x_24.Player,x_38.Id⟩:Pair)))) wz (by kernel_rfl) (wF (eq:=(λ(a b:Pair)=>(eqS a.f_player b.f_player&&(eqS a.f_alert b.f_alert&&true)))) (kD:=(λx=>D.agg (Pair.enc x))) (vD:=(D.int .i64)) (es:=r_17) (k:=(⟨x_24.Player,x_38.Id⟩:Pair)) (z:=0) 0 0 il ft (λ_ _=>rfl) Jy (by kernel_rfl) (by kernel_rfl) rfl rfl rfl (.tup [(vI ((mGet (λ(a b:Pair)=>(eqS a.f_player b.f_player&&(eqS a.f_alert b.f_alert&&true))) r_17 (⟨x_24.Player,x_38.Id⟩:Pair)).getD 0)),(vB ((mGet (λ(a b:Pair)=>(eqS a.f_player b.f_player&&(eqS a.f_alert b.f_alert&&true))) r_17 (⟨x_24.Player,x_38.Id⟩:Pair)).isSome))]) rfl wz (ae (.tup [(vI ((mGet (λ(a b:Pair)=>(eqS a.f_player b.f_player&&(eqS a.f_alert b.f_alert&&true))) r_17 (⟨x_24.Player,x_38.Id⟩:Pair)).getD 0)),(vB ((mGet (λ(a b:Pair)=>(eqS a.f_player b.f_player&&(eqS a.f_alert b.f_alert&&true))) r_17 (⟨x_24.Player,x_38.Id⟩:Pair)).isSome))]) wz rfl (ae (vI ((mGet (λ(a b:Pair)=>(eqS a.f_player b.f_player&&(eqS a.f_alert b.f_alert&&true))) r_17 (⟨x_24.Player,x_38.Id⟩:Pair)).getD 0)) wz rfl (ae (vB ((mGet (λ(a b:Pair)=>(eqS a.f_player b.f_player&&(eqS a.f_alert b.f_alert&&true))) r_17 (⟨x_24.Player,x_38.Id⟩:Pair)).isSome)) wz rfl (ae (vI ((mGet (λ(a b:Pair)=>(eqS a.f_player b.f_player&&(eqS a.f_alert b.f_alert&&true))) r_17 (⟨x_24.Player,x_38.Id⟩:Pair)).getD 0)) wz rfl (ae (vB ((mGet (λ(a b:Pair)=>(eqS a.f_player b.f_player&&(eqS a.f_alert b.f_alert&&true))) r_17 (⟨x_24.Player,x_38.Id⟩:Pair)).isSome)) wz rfl (ai (aD (af (aa (ae (vB ((mGet (λ(a b:Pair)=>(eqS a.f_player b.f_player&&(eqS a.f_alert b.f_alert&&true))) r_17 (⟨x_24.Player,x_38.Id⟩:Pair)).isSome)) wz rfl (ae (vB (!((mGet (λ(a b:Pair)=>(eqS a.f_player b.f_player&&(eqS a.f_alert b.f_alert&&true))) r_17 (⟨x_24.Player,x_38.Id⟩:Pair)).isSome))) wz rfl (ae (vB (!((mGet (λ(a b:Pair)=>(eqS a.f_player b.f_player&&(eqS a.f_alert b.f_alert&&true))) r_17 (⟨x_24.Player,x_38.Id⟩:Pair)).isSome))) wz rfl (ai ?_)))))))))))))))))))))))
          obtain ⟨v_60,h_61,hc_44⟩:=bind_some hc_44
          refine aG (β:=Nm) (λ(n_62:Nm)=>([(0,(vL Alert.enc l_1)),(3,(vI inv_4)),(4,(vI atv_5)),(13,(.map (nu_19 0))),(14,(vL eI r_20)),(15,(gV n_62 4 v_60)),(17,(.ref n_35 0 0)),(42,(vL Post.enc posts_2)),(43,(vI (posts_2.length:Int))),(44,(vI (k_22:Int))),(48,(vL Alert.enc l_1)),(49,(vI (l_1.length:Int))),(50,(vI (k_36:Int)))]:SL_)) (λ(n_62:Nm)=>([((nu_19 0),some (bM (λx=>D.agg (Pair.enc x)) (D.int .i64) r_17)),(n_62,gB 4 Debt.enc v_60),(n_35,some (.cells 3 [(vS x_24.Player),(vI x_24.X),(vI x_24.Y)])),(n_48,some (.cells 9 [(vS x_38.Id),(vS x_38.Sender),(vI x_38.Kind),(vL eS x_38.Refs),(vI x_38.At),(vI x_38.Until),(vI x_38.Weight),(vL Rect.enc x_38.Areas),(vS x_38.Text)]))]:Hp)) (λ_=>True) ?_ ?_
          ·rcases ak h_61 with⟨hc_63,h_61⟩|⟨hc_63,h_61⟩
           ·refine aA rfl hc_63 (aa (ae (gV n_43 4 s_41) wz rfl (aI mg rfl 0 rfl wz (aF 0 2 il ft sz9 ag9 rfl rfl (vS x_24.Player) rfl wz (aI eD rfl 0 rfl wz (aF 0 3 il ft sz9 ag9 rfl rfl (vS x_38.Id) rfl wz (ae (vI (w64 (x_38.At+inv_4))) wz rfl (ae (.d (.agg (Debt.enc (⟨x_24.Player,x_38.Id,(w64 (x_38.At+inv_4)),(-1)⟩:Debt)))) wz (by kernel_rfl) (dQ (([(⟨x_24.Player,x_38.Id,(w64 (x_38.At+inv_4)),(-1)⟩:Debt)]:List Debt).map Debt.enc) Lp ez92 rfl rfl rfl rfl rfl wz ?_)))))))))
            obtain ⟨a_64,hz_65,h_61⟩:=bind_some h_61
            refine o7 0 il ft (i:=1) KU KU IL z96 rfl (by decide) by96 (by decide) (λ_=>rfl) rfl rfl rfl hz_65 wz (λn_66=>ae (gV n_66 4 a_64) wz rfl (ai ?_))
            obtain rfl:=ah h_61
            exact aZ n_66 trivial rfl (aJ rfl)
           ·refine ay rfl hc_63 (af (aa (ae (vI ((mGet (λ(a b:Pair)=>(eqS a.f_player b.f_player&&(eqS a.f_alert b.f_alert&&true))) r_17 (⟨x_24.Player,x_38.Id⟩:Pair)).getD 0)) wz rfl (ae (vI (w64 (x_38.At+inv_4))) wz rfl (ae (vB (decide (((mGet (λ(a b:Pair)=>(eqS a.f_player b.f_player&&(eqS a.f_alert b.f_alert&&true))) r_17 (⟨x_24.Player,x_38.Id⟩:Pair)).getD 0)>(w64 (x_38.At+inv_4))))) wz rfl (ae (vB (decide (((mGet (λ(a b:Pair)=>(eqS a.f_player b.f_player&&(eqS a.f_alert b.f_alert&&true))) r_17 (⟨x_24.Player,x_38.Id⟩:Pair)).getD 0)>(w64 (x_38.At+inv_4))))) wz rfl (ai ?_)))))))
            rcases ak h_61 with⟨hc_67,h_61⟩|⟨hc_67,h_61⟩
            ·refine aA rfl hc_67 (aa (ae (gV n_43 4 s_41) wz rfl (aI mg rfl 0 rfl wz (aF 0 2 il ft sz9 ag9 rfl rfl (vS x_24.Player) rfl wz (aI eD rfl 0 rfl wz (aF 0 3 il ft sz9 ag9 rfl rfl (vS x_38.Id) rfl wz (ae (vI (w64 (x_38.At+inv_4))) wz rfl (ae (vI ((mGet (λ(a b:Pair)=>(eqS a.f_player b.f_player&&(eqS a.f_alert b.f_alert&&true))) r_17 (⟨x_24.Player,x_38.Id⟩:Pair)).getD 0)) wz rfl (ae (.d (.agg (Debt.enc (⟨x_24.Player,x_38.Id,(w64 (x_38.At+inv_4)),((mGet (λ(a b:Pair)=>(eqS a.f_player b.f_player&&(eqS a.f_alert b.f_alert&&true))) r_17 (⟨x_24.Player,x_38.Id⟩:Pair)).getD 0)⟩:Debt)))) wz (by kernel_rfl) (dQ (([(⟨x_24.Player,x_38.Id,(w64 (x_38.At+inv_4)),((mGet (λ(a b:Pair)=>(eqS a.f_player b.f_player&&(eqS a.f_alert b.f_alert&&true))) r_17 (⟨x_24.Player,x_38.Id⟩:Pair)).getD 0)⟩:Debt)]:List Debt).map Debt.enc) Lp ez92 rfl rfl rfl rfl rfl wz ?_))))))))))
             obtain ⟨a_68,hz_69,h_61⟩:=bind_some h_61
             refine o7 0 il ft (i:=1) KU KU IL z96 rfl (by decide) by96 (by decide) (λ_=>rfl) rfl rfl rfl hz_69 wz (λn_70=>ae (gV n_70 4 a_68) wz rfl (ai ?_))
             obtain rfl:=ah h_61
             exact aZ n_70 trivial rfl (aJ rfl)
            ·refine ay rfl hc_67 (au ?_)
             obtain rfl:=ah h_61
             exact aZ n_43 trivial rfl (aJ rfl)
          ·rintro n_62 _ sl_ H_ hp_ hq_
           refine aN _ hp_ hq_ (aa (dX (bg hD_39 hn_40) wz rfl (ae (vI ((k_36+1:Nat):Int)) wz rfl (ai ?_))))
           obtain rfl:=ah hc_44
           exact aV (k_36+1,l_37,v_60,n_62) ⟨hL_45,aQ hD_39⟩ (ls_ _) rfl (aJ rfl)
      ·rintro ⟨s_41,n_43⟩ ho_ sl_ H_ hp_ hq_
       subst ho_
       refine aN _ hp_ hq_ (aa (dX (bg hD_25 hn_26) wz rfl (ae (vI ((k_22+1:Nat):Int)) wz rfl (ai ?_))))
       obtain rfl:=ah hc_31
       exact aV (k_22+1,l_23,s_41,n_43) ⟨hL_32,aQ hD_25⟩ (ls_ _) rfl (aJ rfl)
    ·rintro ⟨s_27,n_30⟩ ho_ sl_ H_ hp_ hq_
     subst ho_
     refine aN _ hp_ hq_ (af (aa (ae (gV n_30 4 s_27) wz rfl ?_)))
     obtain ⟨r_71,hr_72,hF⟩:=bind_some hF
     obtain ⟨_,hs_73,hF⟩:=bind_some hF
     replace hs_73:=rH hs_73
     refine qY 0 [] 1 0 il ft (oU hr_72) rfl hb105 rfl rfl rfl (by kernel_rfl) rfl (.inl rfl) rfl (by kernel_rfl) (by kernel_rfl) (by kernel_rfl) (by kernel_rfl) rfl (by decide) (by kernel_rfl) wy (BS hs_73) wz ([((nu_19 0),some (bM (λx=>D.agg (Pair.enc x)) (D.int .i64) r_17)),(n_30,gB 4 Debt.enc r_71)]:Hp) (by kernel_rfl) (dK (v':=(gV n_30 4 r_71)) 119 rfl (bU hs_73.symm) (dK (v':=(gV n_30 4 r_71)) 15 rfl (bU hs_73.symm) (ai (af (aa (ae (gV n_30 4 r_71) wz rfl (ae (gV n_30 4 r_71) wz rfl (ae (vI 0) wz rfl (ai (jv 1 rfl (gP 10 1 rfl rfl (gP 15 1 rfl rfl (gP 119 1 rfl rfl (gP 121 1 rfl rfl ?_))))))))))))))
     obtain rfl:=ah hF
     exact ax (aR (.inr rfl) [(vL Debt.enc r_71),(vI 0)] ⟨rfl,⟨rfl,trivial⟩⟩ rfl rfl rfl)
theorem yf {a_1:Alert} {p_2:ByteArray} {r:Bool} (hF:ik a_1 p_2=some r) :
  FnM Tryz.prog 117 [(.d (.agg (Alert.enc a_1))),(.ref (av 0) 0 0)] [(.cells 1 [(vS p_2)])] (vB r) [some (.cells 1 [(vS p_2)])]:=by
 refine FnM.of_wH ⟨Tryz.prog,8,[],[]⟩ rfl Tryz.func117 rfl rfl (lb_ rfl) (by kernel_rfl) ?_
 unfold ik at hF
 refine af (aa (dW 0 (.inl rfl) [(vS a_1.Id),(vS a_1.Sender),(vI a_1.Kind),(vL eS a_1.Refs),(vI a_1.At),(vI a_1.Until),(vI a_1.Weight),(vL Rect.enc a_1.Areas),(vS a_1.Text)] rfl rfl wz (λn_3=>ae (vB false) wz rfl (ai (af (aa (aI eD rfl 0 rfl wz (aF 0 1 il ft sz9 ag9 rfl rfl (vS a_1.Id) rfl wz (aF 0 0 il ft sz9 ag9 rfl rfl (vS p_2) rfl wz (ae (vB (sEq a_1.Id p_2)) wz rfl (ae (vB (sEq a_1.Id p_2)) wz rfl (ai ?_))))))))))))
 obtain rfl:=ah hF
 exact ax (rW (.inr rfl) [(vB (sEq a_1.Id p_2))] _ [0] [av 0] ⟨rfl,trivial⟩ (.cons (gH rfl rfl) (.nil)) (by kernel_rfl) ⟨(by kernel_rfl),trivial⟩ (by decide) (by kernel_rfl))
theorem wm {atv_1:Int} {r:Int} (hF:je atv_1=some r) :
  FnM Tryz.prog 118 [(vI atv_1)] [] (vI r) []:=by
 refine FnM.of_wH ⟨Tryz.prog,6,[],[]⟩ rfl Tryz.func118 rfl rfl (lb_ rfl) (by kernel_rfl) ?_
 unfold je at hF
 refine af (aa (ae (vI 0) wz rfl (ai (af (af (aa (ae (vI atv_1) wz rfl ?_)))))))
 obtain ⟨r_2,hr_3,hF⟩:=bind_some hF
 refine aB (kZ hr_3) rfl Gl rfl rfl rfl rfl wz (ae (vB (!r_2)) wz rfl (ai ?_))
 rcases ak hF with⟨hc_4,hF⟩|⟨hc_4,hF⟩
 ·refine aA rfl hc_4 (af (aa (ae (vI 1) wz rfl (ai ?_))))
  obtain rfl:=ah hF
  exact ax (aR (.inr rfl) [(vI 1)] ⟨rfl,trivial⟩ rfl rfl rfl)
 ·refine ay rfl hc_4 (au (af (aa (ae (vI 0) wz rfl (ai ?_)))))
  obtain rfl:=ah hF
  exact ax (aR (.inr rfl) [(vI 0)] ⟨rfl,trivial⟩ rfl rfl rfl)
theorem Ij {a_1:Int} {b_2:Int} {r:Int} (hF:yN a_1 b_2=some r) :
  FnM Tryz.prog 187 [(vI a_1),(vI b_2)] [] (vI r) []:=by
 refine FnM.of_wH ⟨Tryz.prog,15,[],[]⟩ rfl Tryz.func187 rfl rfl (lb_ rfl) (by kernel_rfl) ?_
 unfold yN at hF
 refine af (aa (ae (vI 0) wz rfl (ai (af ?_))))
 obtain ⟨o_11,hj_12,hF⟩:=bind_some hF
 obtain ⟨nq_16,hj_12⟩:=iR hj_12
 refine aG (β:=(Int×Int)) (λ(s_8:Int×Int)=>([(0,(vI s_8.1))]:SL_)) (λ(s_8:Int×Int)=>([]:Hp)) (λp=>o_11 = .go p) ?_ ?_
 ·refine aD (bf (β:=Nat×(Int×Int)) (λp=>(λ(k_3:Nat) (s_8:Int×Int)=>([(0,(vI s_8.1)),(1,(vI s_8.2))]:SL_)) p.1 p.2) (λp=>(λ(k_3:Nat) (s_8:Int×Int)=>([]:Hp)) p.1 p.2) (λp=>iterN (λs=>uM s) p.1 p.2=some o_11) (λp=>p.1) (nq_16,(a_1,b_2)) hj_12 rfl (aJ rfl) ?_)
  rintro ⟨k_3,s_8⟩ hL_10
  dsimp only at hL_10
  cases k_3 with
  | zero=>cases hL_10
  | succ k_3 =>
   obtain ⟨c_,hc_9,hL_10⟩:=bind_some hL_10
   unfold uM at hc_9
   refine af (af (aa (ae (vI s_8.2) wz rfl (ae (vB (s_8.2 != 0)) wz rfl (ai ?_)))))
   rcases ak hc_9 with⟨hc_13,hc_9⟩|⟨hc_13,hc_9⟩
   ·refine aA rfl hc_13 (au (aD (bR (ae (vI s_8.2) wz rfl (ae (vI s_8.1) wz rfl (ae (vI s_8.2) wz rfl ?_))))))
    obtain ⟨q_14,hz_15,hc_9⟩:=bind_some hc_9
    refine JD rfl rfl hz_15 wz (ae (vI s_8.2) wz rfl (ae (vI q_14) wz rfl (ai ?_)))
    obtain rfl:=ah hc_9
    exact aV (k_3,(s_8.2,q_14)) hL_10 (ls_ _) rfl (aJ rfl)
   ·refine ay rfl hc_13 (aW ?_)
    obtain rfl:=ah hc_9
    obtain rfl:=ah hL_10
    exact aZ ((s_8.1,s_8.2)) rfl rfl (aJ rfl)
 ·rintro s_8 ho_ sl_ H_ hp_ hq_
  subst ho_
  refine aN _ hp_ hq_ (af (aa (ae (vI s_8.1) wz rfl (ae (vI s_8.1) wz rfl (ae (vI (w64 (0-s_8.1))) wz rfl (BR (vI (Mi s_8.1 (w64 (0-s_8.1)))) rfl (.inr rfl) wz (ae (vI (Mi s_8.1 (w64 (0-s_8.1)))) wz rfl (ai ?_))))))))
  obtain rfl:=ah hF
  exact ax (aR (.inr rfl) [(vI (Mi s_8.1 (w64 (0-s_8.1))))] ⟨rfl,trivial⟩ rfl rfl rfl)
theorem Dm {num_1:Int} {den_2:Int} {r:Fraction} (hF:nH num_1 den_2=some r) :
  FnM Tryz.prog 119 [(vI num_1),(vI den_2)] [] (.d (.agg (Fraction.enc r))) []:=by
 refine FnM.of_wH ⟨Tryz.prog,22,[],[]⟩ rfl Tryz.func119 rfl rfl (lb_ rfl) (by kernel_rfl) ?_
 unfold nH at hF
 refine af (aa (cK 0 (.inl rfl) IU rfl wz (λn_3=>ai (af (af (aa (ae (vI den_2) wz rfl (ae (vB (decide (den_2<0))) wz rfl (ai ?_)))))))))
 obtain ⟨v_4,h_5,hF⟩:=bind_some hF
 refine aG (β:=Unit) (λ_=>([(0,(vI v_4.1)),(1,(vI v_4.2)),(4,(.ref n_3 0 0))]:SL_)) (λ_=>([(n_3,some (.cells 2 [(vI 0),(vI 0)]))]:Hp)) (λ_=>True) ?_ ?_
 ·rcases ak h_5 with⟨hc_6,h_5⟩|⟨hc_6,h_5⟩
  ·refine aA rfl hc_6 (aa (ae (vI num_1) wz rfl (ae (vI (w64 (0-num_1))) wz rfl (ae (vI den_2) wz rfl (ae (vI (w64 (0-den_2))) wz rfl (ae (vI (w64 (0-num_1))) wz rfl (ae (vI (w64 (0-den_2))) wz rfl (ai ?_))))))))
   obtain rfl:=ah h_5
   exact cu
  ·refine ay rfl hc_6 (au ?_)
   obtain rfl:=ah h_5
   exact cu
 ·rintro ⟨⟩ _ sl_ H_ hp_ hq_
  refine aN _ hp_ hq_ (af (aa (ae (vI v_4.1) wz rfl (ae (vI v_4.2) wz rfl ?_))))
  obtain ⟨r_7,hr_8,hF⟩:=bind_some hF
  refine aB (Ij hr_8) rfl hb187 rfl rfl rfl rfl wz (ae (vI r_7) wz rfl (ai (af (bR (ae (vI v_4.1) wz rfl (ae (vI r_7) wz rfl ?_))))))
  obtain ⟨q_9,hz_10,hF⟩:=bind_some hF
  refine Gp rfl rfl hz_10 wz (ae (vI v_4.2) wz rfl (ae (vI r_7) wz rfl ?_))
  obtain ⟨q_11,hz_12,hF⟩:=bind_some hF
  refine Gp rfl rfl hz_12 wz (ae (.d (.agg (Fraction.enc (⟨q_9,q_11⟩:Fraction)))) wz (by kernel_rfl) (dJ 7 (.inr (by kernel_rfl)) (λ_ _ ag=>trivial) 0 ll rfl rfl [(vI q_9),(vI q_11)] rfl wz (ai ?_)))
  obtain rfl:=ah hF
  exact ax (aR (.inr rfl) [(.d (.agg (Fraction.enc (⟨q_9,q_11⟩:Fraction))))] ⟨⟨0,_,_,_,_,_,_,_,rfl,rfl,ll,vN,rfl⟩,trivial⟩ rfl rfl rfl)
end Go.Proofs.YtjhcehhmdmbleaaGreatDoor.Law

