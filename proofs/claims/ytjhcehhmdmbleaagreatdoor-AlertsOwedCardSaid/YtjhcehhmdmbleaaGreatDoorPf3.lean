/-
 The machine computes these plain functions (written by a program of ours).
-/
import Derived.Test.YtjhcehhmdmbleaaGreatDoorFacts
import Derived.Test.YtjhcehhmdmbleaaGreatDoorDefs
import Derived.Test.YtjhcehhmdmbleaaGreatDoorPf2
import Derived.Test.YtjhcehhmdmbleaaGreatDoorShelf
open Go Go.Eng Go.Proofs
namespace Go.Proofs.YtjhcehhmdmbleaaGreatDoor.Law
set_option maxRecDepth 100000
set_option linter.unusedVariables false
set_option maxHeartbeats 1000000
section
variable [dM:DM]
theorem pX {vals_1:(List Int)} {r:Int} (hF:jX vals_1=some r) :
  FnM Tryz.prog 107 [(vL eI vals_1)] [] (vI r) []:=by
 refine FnM.of_wH ⟨Tryz.prog,18,[],[]⟩ rfl Tryz.func107 rfl rfl (lb_ rfl) (by kernel_rfl) ?_
 unfold jX at hF
 refine af (aa (ae (vI 0) wz rfl (ai (af (aa (ae (vI 0) wz rfl (ai (af (af (aa (ae (vL eI vals_1) wz rfl (bN Li rfl wz (ae (vI 0) wz rfl (ai ?_))))))))))))))
 obtain ⟨o_10,hj_11,hF⟩:=bind_some hF
 obtain ⟨hn_6,hj_11⟩:=aU hj_11
 refine aG (β:=(Unit)) (λ(s_7:Unit)=>([(3,(vI 0))]:SL_)) (λ(s_7:Unit)=>([]:Hp)) (λp=>o_10 = .go p) ?_ ?_
 ·refine aD (bf (β:=Nat×(List Int)×(Unit)) (λp=>(λ(k_2:Nat) (l_3:List Int) (s_7:Unit)=>([(3,(vI 0)),(6,(vL eI vals_1)),(7,(vI (vals_1.length:Int))),(8,(vI (k_2:Int)))]:SL_)) p.1 p.2.1 p.2.2) (λp=>(λ(k_2:Nat) (l_3:List Int) (s_7:Unit)=>([]:Hp)) p.1 p.2.1 p.2.2) (λp=>forR (λk x s=>mZ k x s) p.2.1 p.1 p.2.2=some o_10/\(vals_1).drop p.1=p.2.1) (λp=>p.2.1.length) (0,vals_1,()) ⟨hj_11,rfl⟩ rfl (aJ rfl) ?_)
  rintro ⟨k_2,l_3,s_7⟩ ⟨hL_9,hD_5⟩
  dsimp only at hL_9 hD_5
  cases l_3 with
  | nil =>
   obtain rfl:=ah hL_9
   refine af (aa (ae (vB (decide ((k_2:Int)<(vals_1.length:Int)))) wz rfl (ai ?_)))
   refine af (ay rfl (drop_nil hD_5) (aW ?_))
   exact aZ (s_7) rfl rfl (aJ rfl)
  | cons x_4 l_3 =>
   obtain ⟨c_,hc_8,hL_9⟩:=bind_some hL_9
   refine af (aa (ae (vB (decide ((k_2:Int)<(vals_1.length:Int)))) wz rfl (ai ?_)))
   refine af (aA rfl (aY hD_5) (au ?_))
   unfold mZ at hc_8
   refine af (aD (af (aa (fU sQ rfl rfl (bz hD_5) rfl wz (dn sz3 ag3 rfl (vI x_4) rfl wz (ae (vI x_4) wz rfl (ai (af (aa (ae (vI x_4) wz rfl (ae (vI 0) wz rfl (ae (vB (x_4 != 0)) wz rfl (ai ?_)))))))))))))
   rcases ak hc_8 with⟨hc_12,hc_8⟩|⟨hc_12,hc_8⟩
   ·refine aA rfl hc_12 (af (aa (ae (vI x_4) wz rfl (ae (vI x_4) wz rfl (ai ?_)))))
    obtain rfl:=ah hc_8
    obtain rfl:=ah hL_9
    obtain rfl:=ah hF
    exact ax (aR (.inr rfl) [(vI x_4)] ⟨rfl,trivial⟩ rfl rfl rfl)
   ·refine ay rfl hc_12 (au (aa (dX (bg hD_5 hn_6) wz rfl (ae (vI ((k_2+1:Nat):Int)) wz rfl (ai ?_)))))
    obtain rfl:=ah hc_8
    exact aV (k_2+1,l_3,()) ⟨hL_9,aQ hD_5⟩ (ls_ _) rfl (aJ rfl)
 ·rintro s_7 ho_ sl_ H_ hp_ hq_
  subst ho_
  refine aN _ hp_ hq_ (af (aa (ae (vI 0) wz rfl (ae (vI 0) wz rfl (ai ?_)))))
  obtain rfl:=ah hF
  exact ax (aR (.inr rfl) [(vI 0)] ⟨rfl,trivial⟩ rfl rfl rfl)
end
section
variable [dM:DM]
theorem jV {a_1:Receipt} {b_2:Receipt} {r:Int} (hF:dY a_1 b_2=some r) :
  FnM Tryz.prog 113 [(.d (.agg (Receipt.enc a_1))),(.d (.agg (Receipt.enc b_2)))] [] (vI r) []:=by
 refine FnM.of_wH ⟨Tryz.prog,24,[],[]⟩ rfl Tryz.func113 rfl rfl (lb_ rfl) (by kernel_rfl) ?_
 unfold dY at hF
 refine af (aa (dW 0 (.inl rfl) [(vS a_1.Player),(vS a_1.Alert),(vI a_1.At),(vB a_1.Seen)] rfl rfl wz (λn_3=>dW 0 (.inl rfl) [(vS b_2.Player),(vS b_2.Alert),(vI b_2.At),(vB b_2.Seen)] rfl rfl wz (λn_4=>ae (vI 0) wz rfl (ai (af (bR (aI rZ rfl 0 rfl wz (aF 1 0 (.inr (by kernel_rfl)) (λ_ _ ag=>trivial) sz9 ag9 rfl rfl (vS a_1.Player) rfl wz (aI rZ rfl 0 rfl wz (aF 3 1 (.inr (by kernel_rfl)) (λ_ _ ag=>⟨.inl ⟨rfl,rfl⟩,trivial⟩) sz9 ag9 rfl rfl (vS b_2.Player) rfl wz ?_)))))))))))
 obtain ⟨r_5,hr_6,hF⟩:=bind_some hF
 refine aB (iG hr_6) rfl Ez rfl rfl rfl rfl wz (aI sN rfl 1 rfl wz (aF 6 0 (.inr (by kernel_rfl)) (λ_ _ ag=>⟨.inl ⟨rfl,rfl⟩,⟨.inl ⟨rfl,rfl⟩,trivial⟩⟩) sz9 ag9 rfl rfl (vS a_1.Alert) rfl wz (aI sN rfl 1 rfl wz (aF 8 1 (.inr (by kernel_rfl)) (λ_ _ ag=>⟨.inl ⟨rfl,rfl⟩,⟨.inl ⟨rfl,rfl⟩,⟨.inl ⟨rfl,rfl⟩,trivial⟩⟩⟩) sz9 ag9 rfl rfl (vS b_2.Alert) rfl wz ?_))))
 obtain ⟨r_7,hr_8,hF⟩:=bind_some hF
 refine aB (iG hr_8) rfl Ez rfl rfl rfl rfl wz (aI BU rfl 3 rfl wz (aF 11 0 (.inr (by kernel_rfl)) (λ_ _ ag=>⟨.inl ⟨rfl,rfl⟩,⟨.inl ⟨rfl,rfl⟩,⟨.inl ⟨rfl,rfl⟩,⟨.inl ⟨rfl,rfl⟩,trivial⟩⟩⟩⟩) sz4 ag4 rfl rfl (vB a_1.Seen) rfl wz ?_))
 obtain ⟨r_9,hr_10,hF⟩:=bind_some hF
 refine aB (mQ hr_10) rfl M8 rfl rfl rfl rfl wz (aI BU rfl 3 rfl wz (aF 14 1 (.inr (by kernel_rfl)) (λ_ _ ag=>⟨.inl ⟨rfl,rfl⟩,⟨.inl ⟨rfl,rfl⟩,⟨.inl ⟨rfl,rfl⟩,⟨.inl ⟨rfl,rfl⟩,⟨.inl ⟨rfl,rfl⟩,trivial⟩⟩⟩⟩⟩) sz4 ag4 rfl rfl (vB b_2.Seen) rfl wz ?_))
 obtain ⟨r_11,hr_12,hF⟩:=bind_some hF
 refine aB (mQ hr_12) rfl M8 rfl rfl rfl rfl wz ?_
 obtain ⟨r_13,hr_14,hF⟩:=bind_some hF
 refine aB (nC hr_14) rfl LV rfl rfl rfl rfl wz (dQ (([r_5,r_7,r_13]:List Int).map eI) sQ zW rfl rfl rfl rfl rfl wz ?_)
 obtain ⟨r_15,hr_16,hF⟩:=bind_some hF
 refine aB (pX hr_16) rfl JZ rfl rfl rfl rfl wz (ae (vI r_15) wz rfl (ai ?_))
 obtain rfl:=ah hF
 exact ax (aR (.inr rfl) [(vI r_15)] ⟨rfl,trivial⟩ rfl rfl rfl)
end
theorem kX {l_1:(List Receipt)} {r:Int} (hF:fZ l_1=some r) :
  FnM Tryz.prog 52 [(vL Receipt.enc l_1)] [] (vI r) []:=by
 refine FnM.of_wH ⟨Tryz.prog,45,[],[]⟩ rfl Tryz.func52 rfl rfl (lb_ rfl) (by kernel_rfl) ?_
 unfold fZ at hF
 refine af (aa (ae (vI 0) wz rfl (ai (af (af (aa (ae (vL Receipt.enc l_1) wz rfl (bN nE rfl wz (ae (vB (decide ((l_1.length:Int)>2000))) wz rfl (ai ?_))))))))))
 rcases ak hF with⟨hc_2,hF⟩|⟨hc_2,hF⟩
 ·refine aA rfl hc_2 (af (aa (ae (vI 2) wz rfl (ai ?_))))
  obtain rfl:=ah hF
  exact ax (aR (.inr rfl) [(vI 2)] ⟨rfl,trivial⟩ rfl rfl rfl)
 ·refine ay rfl hc_2 (au (af (af (aa (ae (vL Receipt.enc l_1) wz rfl (bN nE rfl wz (ae (vI 0) wz rfl (ai ?_))))))))
  obtain ⟨o_11,hj_12,hF⟩:=bind_some hF
  obtain ⟨hn_7,hj_12⟩:=aU hj_12
  refine aG (β:=(Unit)) (λ(s_8:Unit)=>([]:SL_)) (λ(s_8:Unit)=>([]:Hp)) (λp=>o_11 = .go p) ?_ ?_
  ·refine aD (bf (β:=Nat×(List Receipt)×(Unit)) (λp=>(λ(k_3:Nat) (l_4:List Receipt) (s_8:Unit)=>([(0,(vL Receipt.enc l_1)),(8,(vL Receipt.enc l_1)),(9,(vI (l_1.length:Int))),(10,(vI (k_3:Int)))]:SL_)) p.1 p.2.1 p.2.2) (λp=>(λ(k_3:Nat) (l_4:List Receipt) (s_8:Unit)=>([]:Hp)) p.1 p.2.1 p.2.2) (λp=>forR (λk x s=>fO l_1 k x s) p.2.1 p.1 p.2.2=some o_11/\(l_1).drop p.1=p.2.1) (λp=>p.2.1.length) (0,l_1,()) ⟨hj_12,rfl⟩ rfl (aJ rfl) ?_)
   rintro ⟨k_3,l_4,s_8⟩ ⟨hL_10,hD_6⟩
   dsimp only at hL_10 hD_6
   cases l_4 with
   | nil =>
    obtain rfl:=ah hL_10
    refine af (aa (ae (vB (decide ((k_3:Int)<(l_1.length:Int)))) wz rfl (ai ?_)))
    refine af (ay rfl (drop_nil hD_6) (aW ?_))
    exact aZ (s_8) rfl rfl (aJ rfl)
   | cons x_5 l_4 =>
    obtain ⟨c_,hc_9,hL_10⟩:=bind_some hL_10
    refine af (aa (ae (vB (decide ((k_3:Int)<(l_1.length:Int)))) wz rfl (ai ?_)))
    refine af (aA rfl (aY hD_6) (au ?_))
    unfold fO at hc_9
    refine af (aD (af (aa (ae (vI (k_3:Int)) wz rfl (fU qQ rfl rfl (bz hD_6) rfl wz (dn jh oh rfl (.d (.agg (Receipt.enc x_5))) rfl wz (cK 0 (.inl rfl) z91 rfl wz (λn_13=>ae (vI (k_3:Int)) wz rfl (dJ 0 il ft 0 jh rfl rfl [(vS x_5.Player),(vS x_5.Alert),(vI x_5.At),(vB x_5.Seen)] rfl wz (ai (aD (af ?_))))))))))))
    obtain ⟨v_14,h_15,hc_9⟩:=bind_some hc_9
    refine aG (β:=Unit) (λ_=>([(0,(vL Receipt.enc l_1)),(3,(vI (k_3:Int))),(4,(.ref n_13 0 0)),(8,(vL Receipt.enc l_1)),(9,(vI (l_1.length:Int))),(10,(vI (k_3:Int))),(15,(vB v_14))]:SL_)) (λ_=>([(n_13,some (.cells 4 [(vS x_5.Player),(vS x_5.Alert),(vI x_5.At),(vB x_5.Seen)]))]:Hp)) (λ_=>True) ?_ ?_
    ·refine aa (aI rZ rfl 0 rfl wz (aF 0 0 il ft sz9 ag9 rfl rfl (vS x_5.Player) rfl wz ?_))
     obtain ⟨r_16,hr_17,h_15⟩:=bind_some h_15
     refine aB (mM hr_17) rfl EA rfl rfl rfl rfl wz (ae (vB (!r_16)) wz rfl ?_)
     rcases ak h_15 with⟨hc_18,h_15⟩|⟨hc_18,h_15⟩
     ·refine aC rfl hc_18 wz (aj wa (aj wa (aj wa (aj wa (ae (vB true) wz rfl (ae (vB true) wz rfl (ai ?_)))))))
      obtain rfl:=ah h_15
      exact cu
     ·refine aC rfl hc_18 wz (aI sN rfl 1 rfl wa (aF 0 0 il ft sz9 ag9 rfl rfl (vS x_5.Alert) rfl wa ?_))
      obtain ⟨r_19,hr_20,h_15⟩:=bind_some h_15
      refine aB (mM hr_20) rfl EA rfl rfl rfl rfl wa (ae (vB (!r_19)) wa rfl (ae (vB (!r_19)) wz rfl (ae (vB (!r_19)) wz rfl (ai ?_))))
      obtain rfl:=ah h_15
      exact cu
    ·rintro ⟨⟩ _ sl_ H_ hp_ hq_
     refine aN _ hp_ hq_ ?_
     rcases ak hc_9 with⟨hc_21,hc_9⟩|⟨hc_21,hc_9⟩
     ·refine aA rfl hc_21 (af (aa (ae (vI 5) wz rfl (ai ?_))))
      obtain rfl:=ah hc_9
      obtain rfl:=ah hL_10
      obtain rfl:=ah hF
      exact ax (aR (.inr rfl) [(vI 5)] ⟨rfl,trivial⟩ rfl rfl rfl)
     ·refine ay rfl hc_21 (af (aa (aI nD rfl 2 rfl wz (aF 0 0 il ft sz3 ag3 rfl rfl (vI x_5.At) rfl wz ?_))))
      obtain ⟨r_22,hr_23,hc_9⟩:=bind_some hc_9
      refine aB (kZ hr_23) rfl Gl rfl rfl rfl rfl wz (ae (vB (!r_22)) wz rfl (ae (vB (!r_22)) wz rfl (ai ?_)))
      rcases ak hc_9 with⟨hc_24,hc_9⟩|⟨hc_24,hc_9⟩
      ·refine aA rfl hc_24 (af (aa (ae (vI 1) wz rfl (ai ?_))))
       obtain rfl:=ah hc_9
       obtain rfl:=ah hL_10
       obtain rfl:=ah hF
       exact ax (aR (.inr rfl) [(vI 1)] ⟨rfl,trivial⟩ rfl rfl rfl)
      ·refine ay rfl hc_24 (af ?_)
       obtain ⟨v_25,h_26,hc_9⟩:=bind_some hc_9
       refine aG (β:=Unit) (λ_=>([(0,(vL Receipt.enc l_1)),(8,(vL Receipt.enc l_1)),(9,(vI (l_1.length:Int))),(10,(vI (k_3:Int))),(31,(vB v_25))]:SL_)) (λ_=>([(n_13,some (.cells 4 [(vS x_5.Player),(vS x_5.Alert),(vI x_5.At),(vB x_5.Seen)]))]:Hp)) (λ_=>True) ?_ ?_
       ·refine bR (ae (vI (k_3:Int)) wz rfl (ae (vB (decide ((k_3:Int)>0))) wz rfl ?_))
        rcases ak h_26 with⟨hc_27,h_26⟩|⟨hc_27,h_26⟩
        ·refine aC rfl hc_27 wz (ae (vL Receipt.enc l_1) wa rfl (ae (vI (k_3:Int)) wa rfl (ae (vI (w64 ((k_3:Int)-1))) wa rfl ?_)))
         obtain ⟨y_28,hy_29,h_26⟩:=bind_some h_26
         refine fU qQ rfl rfl hy_29 rfl wa (dn jh oh rfl (.d (.agg (Receipt.enc y_28))) rfl wa (aF 8 0 (.inr (by kernel_rfl)) (λ_ _ ag=>trivial) jh oh rfl rfl (.d (.agg (Receipt.enc x_5))) rfl wa ?_))
         obtain ⟨r_30,hr_31,h_26⟩:=bind_some h_26
         refine aB (jV hr_31) rfl Md rfl rfl rfl rfl wa (ae (vB (decide (r_30>=0))) wa rfl (ae (vB (decide (r_30>=0))) wz rfl (ae (vB (decide (r_30>=0))) wz rfl (ai ?_))))
         obtain rfl:=ah h_26
         exact cu
        ·refine aC rfl hc_27 wz (aj wa (aj wa (aj wa (aj wa (aj wa (aj wa (aj wa (aj wa (ae (vB false) wz rfl (ae (vB false) wz rfl (ai ?_)))))))))))
         obtain rfl:=ah h_26
         exact cu
       ·rintro ⟨⟩ _ sl_ H_ hp_ hq_
        refine aN _ hp_ hq_ ?_
        rcases ak hc_9 with⟨hc_32,hc_9⟩|⟨hc_32,hc_9⟩
        ·refine aA rfl hc_32 (af (aa (ae (vI 7) wz rfl (ai ?_))))
         obtain rfl:=ah hc_9
         obtain rfl:=ah hL_10
         obtain rfl:=ah hF
         exact ax (aR (.inr rfl) [(vI 7)] ⟨rfl,trivial⟩ rfl rfl rfl)
        ·refine ay rfl hc_32 (au (aa (dX (bg hD_6 hn_7) wz rfl (ae (vI ((k_3+1:Nat):Int)) wz rfl (ai ?_)))))
         obtain rfl:=ah hc_9
         exact aV (k_3+1,l_4,()) ⟨hL_10,aQ hD_6⟩ (ls_ _) rfl (aJ rfl)
  ·rintro s_8 ho_ sl_ H_ hp_ hq_
   subst ho_
   refine aN _ hp_ hq_ (af (aa (ae (vI 0) wz rfl (ai ?_))))
   obtain rfl:=ah hF
   exact ax (aR (.inr rfl) [(vI 0)] ⟨rfl,trivial⟩ rfl rfl rfl)
theorem lM {n_1:Int} {r:Bool} (hF:cZ n_1=some r) :
  FnM Tryz.prog 184 [.nil,(vI n_1)] [] (kV r (av 0) 4 ([]:List Receipt)) (kO r 4):=by
 refine FnM.of_wH ⟨Tryz.prog,27,[],[]⟩ rfl Tryz.func184 rfl rfl (lb_ rfl) (by kernel_rfl) ?_
 unfold cZ at hF
 refine af (aa (ae .nil wz rfl (ai (af (af (aa (ae (vI n_1) wz rfl (ae (vB (decide (n_1<0))) wz rfl (ai ?_)))))))))
 rcases ak hF with⟨hc_2,hF⟩|⟨hc_2,hF⟩
 ·refine aA rfl hc_2 (aa ?_)
  cases hF
 ·refine ay rfl hc_2 (au (af (af (aa (ae (vI n_1) wz rfl (ae .nil wz rfl (M3 Fv rfl wz (ae .nil wz rfl (L6 nE rfl wz (ae (vI (w64 (0-0))) wz rfl (ae (vI (w64 (n_1-(w64 (0-0))))) wz rfl (ae (vI (w64 (n_1-(w64 (0-0))))) wz rfl (ai (af (aa (ae (vI (w64 (n_1-(w64 (0-0))))) wz rfl (ae (vB (decide ((w64 (n_1-(w64 (0-0))))>0))) wz rfl (ai ?_))))))))))))))))))
  rcases ak hF with⟨hc_3,hF⟩|⟨hc_3,hF⟩
  ·refine aA rfl hc_3 (aa (ae .nil wz rfl (ae .nil wz rfl (M3 Fv rfl wz (ae .nil wz (by kernel_rfl) (ae (vI (w64 (n_1-(w64 (0-0))))) wz rfl ?_))))))
   obtain ⟨_,hz_5,hF⟩:=bind_some hF
   refine h_appz (enc:=Receipt.enc) 0 (.inl rfl) Fv (by kernel_rfl) jh z91 rfl (by decide) by91 rfl rfl hz_5 wz (λn_4=>ae .nil wz rfl (L6 nE rfl wz (h_cutm (m:=0) nE jh rfl rfl rfl (Nat.zero_le _) wz (ae (.vs n_4 4 0 0) wz rfl (ai (af (aa (ae (.vs n_4 4 0 0) wz rfl (ae (.vs n_4 4 0 0) wz rfl (ai ?_))))))))))
   obtain rfl:=ah hF
   exact ax (finK (.inr rfl) 0 rfl rfl)
  ·refine ay rfl hc_3 (au (af (aa (ae .nil wz rfl (ae .nil wz rfl (ai ?_))))))
   obtain rfl:=ah hF
   exact ax (finK0 (.inr rfl) rfl)
section
variable [dM:DM]
theorem Aq {x_1:Receipt} {y_2:Receipt} {r:Int} (hF:jm x_1 y_2=some r) :
  FnM Tryz.prog 112 [(.d (.agg (Receipt.enc x_1))),(.d (.agg (Receipt.enc y_2)))] [] (vI r) []:=by
 refine FnM.of_wH ⟨Tryz.prog,15,[],[]⟩ rfl Tryz.func112 rfl rfl (lb_ rfl) (by kernel_rfl) ?_
 unfold jm at hF
 refine af (aa (dW 0 (.inl rfl) [(vS x_1.Player),(vS x_1.Alert),(vI x_1.At),(vB x_1.Seen)] rfl rfl wz (λn_3=>dW 0 (.inl rfl) [(vS y_2.Player),(vS y_2.Alert),(vI y_2.At),(vB y_2.Seen)] rfl rfl wz (λn_4=>ae (vI 0) wz rfl (ai (af (bR (aF 0 0 (.inr (by kernel_rfl)) (λ_ _ ag=>trivial) jh oh rfl rfl (.d (.agg (Receipt.enc x_1))) rfl wz (aF 1 1 (.inr (by kernel_rfl)) (λ_ _ ag=>⟨.inl ⟨rfl,rfl⟩,trivial⟩) jh oh rfl rfl (.d (.agg (Receipt.enc y_2))) rfl wz ?_)))))))))
 obtain ⟨r_5,hr_6,hF⟩:=bind_some hF
 refine aB (jV hr_6) rfl Md rfl rfl rfl rfl wz (aI nD rfl 2 rfl wz (aF 4 0 (.inr (by kernel_rfl)) (λ_ _ ag=>⟨.inl ⟨rfl,rfl⟩,⟨.inl ⟨rfl,rfl⟩,trivial⟩⟩) sz3 ag3 rfl rfl (vI x_1.At) rfl wz (aI nD rfl 2 rfl wz (aF 6 1 (.inr (by kernel_rfl)) (λ_ _ ag=>⟨.inl ⟨rfl,rfl⟩,⟨.inl ⟨rfl,rfl⟩,⟨.inl ⟨rfl,rfl⟩,trivial⟩⟩⟩) sz3 ag3 rfl rfl (vI y_2.At) rfl wz ?_))))
 obtain ⟨r_7,hr_8,hF⟩:=bind_some hF
 refine aB (nC hr_8) rfl LV rfl rfl rfl rfl wz (dQ (([r_5,r_7]:List Int).map eI) sQ zW rfl rfl rfl rfl rfl wz ?_)
 obtain ⟨r_9,hr_10,hF⟩:=bind_some hF
 refine aB (pX hr_10) rfl JZ rfl rfl rfl rfl wz (ae (vI r_9) wz rfl (ai ?_))
 obtain rfl:=ah hF
 exact ax (aR (.inr rfl) [(vI r_9)] ⟨rfl,trivial⟩ rfl rfl rfl)
end
theorem oW {x r:(List Receipt)} (hF:eY x=some r) :
  FnM Tryz.prog 111 [(dV (av 0) 4 x),(.fn 112 [])] (([]:List Box)++gI 4 Receipt.enc x) (.tup []) (([]:List Box).map some++gT x (gB 4 Receipt.enc r)) :=
 xx (E:=Receipt.enc) (F:=λa b=>jm a b) (λ_=>rfl) (λa b r h=>Aq (dM:=dmT) h) hb112 (λβ _ enc hk h1 cf hO g cb blk off cap d w eg hcmp hH hblk hsz=>Tryz.slices_SortFunc_eq_f111 4 Tryz.isAgg91 Tryz.sizeOf91 enc hk h1 cf hO g cb blk off cap d w eg hcmp hH hblk hsz) (λp cap fv w=>Tryz.slices_SortFunc_none_f111 (α:=Nat) p cap fv w) hF
theorem gQ {slices_1:(List (List Receipt))} {r:(List Receipt)} (hF:bK slices_1=some r) :
  FnM Tryz.prog 110 [(vL (eL Receipt.enc) slices_1)] [] (gV (av 0) 4 r) (([]:List Box).map some++gO 4 Receipt.enc r):=by
 refine FnM.of_wH ⟨Tryz.prog,36,[],[]⟩ rfl Tryz.func110 rfl rfl (lb_ rfl) (by kernel_rfl) ?_
 unfold bK at hF
 refine af (aa (ae .nil wz rfl (ai (af (aa (ae (vI 0) wz rfl (ai (af (af (aa (ae (vL (eL Receipt.enc) slices_1) wz rfl (bN un253 rfl wz (ae (vI 0) wz rfl (ai ?_))))))))))))))
 obtain ⟨o_10,hj_11,hF⟩:=bind_some hF
 obtain ⟨hn_6,hj_11⟩:=aU hj_11
 refine aG (β:=(Int)) (λ(s_7:Int)=>([(0,(vL (eL Receipt.enc) slices_1)),(3,(vI s_7))]:SL_)) (λ(s_7:Int)=>([]:Hp)) (λp=>o_10 = .go p) ?_ ?_
 ·refine aD (bf (β:=Nat×(List (List Receipt))×(Int)) (λp=>(λ(k_2:Nat) (l_3:List (List Receipt)) (s_7:Int)=>([(0,(vL (eL Receipt.enc) slices_1)),(3,(vI s_7)),(9,(vL (eL Receipt.enc) slices_1)),(10,(vI (slices_1.length:Int))),(11,(vI (k_2:Int)))]:SL_)) p.1 p.2.1 p.2.2) (λp=>(λ(k_2:Nat) (l_3:List (List Receipt)) (s_7:Int)=>([]:Hp)) p.1 p.2.1 p.2.2) (λp=>forR (λk x s=>bu k x s) p.2.1 p.1 p.2.2=some o_10/\(slices_1).drop p.1=p.2.1) (λp=>p.2.1.length) (0,slices_1,0) ⟨hj_11,rfl⟩ rfl (aJ rfl) ?_)
  rintro ⟨k_2,l_3,s_7⟩ ⟨hL_9,hD_5⟩
  dsimp only at hL_9 hD_5
  cases l_3 with
  | nil =>
   obtain rfl:=ah hL_9
   refine af (aa (ae (vB (decide ((k_2:Int)<(slices_1.length:Int)))) wz rfl (ai ?_)))
   refine af (ay rfl (drop_nil hD_5) (aW ?_))
   exact aZ (s_7) rfl rfl (aJ rfl)
  | cons x_4 l_3 =>
   obtain ⟨c_,hc_8,hL_9⟩:=bind_some hL_9
   refine af (aa (ae (vB (decide ((k_2:Int)<(slices_1.length:Int)))) wz rfl (ai ?_)))
   refine af (aA rfl (aY hD_5) (au ?_))
   unfold bu at hc_8
   refine af (aD (af (aa (fU JE rfl rfl (bz hD_5) rfl wz (dn sz89 ag89 rfl (vL Receipt.enc x_4) rfl wz (ae (vL Receipt.enc x_4) wz rfl (ai (af (aa (ae (vI s_7) wz rfl (ae (vL Receipt.enc x_4) wz rfl (bN nE rfl wz (ae (vI (w64 (s_7+(x_4.length:Int)))) wz rfl (ae (vI (w64 (s_7+(x_4.length:Int)))) wz rfl (ai (af (aa (ae (vI (w64 (s_7+(x_4.length:Int)))) wz rfl (ae (vB (decide ((w64 (s_7+(x_4.length:Int)))<0))) wz rfl (ai ?_))))))))))))))))))))
   obtain ⟨v_12,h_13,hc_8⟩:=bind_some hc_8
   refine aG (β:=Unit) (λ_=>([(0,(vL (eL Receipt.enc) slices_1)),(3,(vI (w64 (s_7+(x_4.length:Int))))),(9,(vL (eL Receipt.enc) slices_1)),(10,(vI (slices_1.length:Int))),(11,(vI (k_2:Int)))]:SL_)) (λ_=>([]:Hp)) (λ_=>True) ?_ ?_
   ·rcases ak h_13 with⟨hc_14,h_13⟩|⟨hc_14,h_13⟩
    ·refine aA rfl hc_14 (aa ?_)
     cases h_13
    ·refine ay rfl hc_14 (au ?_)
     obtain rfl:=ah h_13
     exact cu
   ·rintro ⟨⟩ _ sl_ H_ hp_ hq_
    refine aN _ hp_ hq_ (aa (dX (bg hD_5 hn_6) wz rfl (ae (vI ((k_2+1:Nat):Int)) wz rfl (ai ?_))))
    obtain rfl:=ah hc_8
    exact aV (k_2+1,l_3,(w64 (s_7+(x_4.length:Int)))) ⟨hL_9,aQ hD_5⟩ (ls_ _) rfl (aJ rfl)
 ·rintro s_7 ho_ sl_ H_ hp_ hq_
  subst ho_
  refine aN _ hp_ hq_ (af (aa (ae (vI s_7) wz rfl ?_)))
  obtain ⟨b_15,hr_16,hF⟩:=bind_some hF
  refine h_callk (enc:=Receipt.enc) (lM hr_16) rfl hb184 (by kernel_rfl) rfl (by kernel_rfl) wz (λn_17=>ae (kV b_15 n_17 4 ([]:List Receipt)) wz rfl (ai (af (af (aa (ae (vL (eL Receipt.enc) slices_1) wz rfl (bN un253 rfl wz (ae (vI 0) wz rfl (ai ?_)))))))))
  obtain ⟨o_28,hj_29,hF⟩:=bind_some hF
  obtain ⟨hn_22,hj_29⟩:=aU hj_29
  refine aG (β:=((List Receipt))×Nm) (λp=>(λ(s_23:List Receipt) (n_25:Nm)=>([(6,(kV b_15 n_25 4 s_23))]:SL_)) p.1 p.2) (λp=>(λ(s_23:List Receipt) (n_25:Nm)=>([(n_25,kB b_15 4 Receipt.enc s_23)]:Hp)) p.1 p.2) (λp=>o_28 = .go p.1) ?_ ?_
  ·refine aD (bf (β:=Nat×(List (List Receipt))×((List Receipt))×Nm) (λp=>(λ(k_18:Nat) (l_19:List (List Receipt)) (s_23:List Receipt) (n_25:Nm)=>([(6,(kV b_15 n_25 4 s_23)),(25,(vL (eL Receipt.enc) slices_1)),(26,(vI (slices_1.length:Int))),(27,(vI (k_18:Int)))]:SL_)) p.1 p.2.1 p.2.2.1 p.2.2.2) (λp=>(λ(k_18:Nat) (l_19:List (List Receipt)) (s_23:List Receipt) (n_25:Nm)=>([(n_25,kB b_15 4 Receipt.enc s_23)]:Hp)) p.1 p.2.1 p.2.2.1 p.2.2.2) (λp=>forR (λk x s=>bv k x s) p.2.1 p.1 p.2.2.1=some o_28/\(slices_1).drop p.1=p.2.1) (λp=>p.2.1.length) (0,slices_1,([]:List Receipt),n_17) ⟨hj_29,rfl⟩ rfl (aJ rfl) ?_)
   rintro ⟨k_18,l_19,s_23,n_25⟩ ⟨hL_27,hD_21⟩
   dsimp only at hL_27 hD_21
   cases l_19 with
   | nil =>
    obtain rfl:=ah hL_27
    refine af (aa (ae (vB (decide ((k_18:Int)<(slices_1.length:Int)))) wz rfl (ai ?_)))
    refine af (ay rfl (drop_nil hD_21) (aW ?_))
    exact aZ (s_23,n_25) rfl rfl (aJ rfl)
   | cons x_20 l_19 =>
    obtain ⟨c_,hc_26,hL_27⟩:=bind_some hL_27
    refine af (aa (ae (vB (decide ((k_18:Int)<(slices_1.length:Int)))) wz rfl (ai ?_)))
    refine af (aA rfl (aY hD_21) (au ?_))
    unfold bv at hc_26
    refine af (aD (af (aa (fU JE rfl rfl (bz hD_21) rfl wz (dn sz89 ag89 rfl (vL Receipt.enc x_20) rfl wz (ae (vL Receipt.enc x_20) wz rfl (ai (aa (ae (kV b_15 n_25 4 s_23) wz rfl (ae (vL Receipt.enc x_20) wz rfl ?_))))))))))
    obtain ⟨a_30,hz_31,hc_26⟩:=bind_some hc_26
    refine h_appk 0 il ft (i:=0) Fv Fv jh z91 rfl (by decide) by91 (by decide) (λ_=>rfl) rfl rfl rfl hz_31 wz (λn_32=>ae (kV b_15 n_32 4 a_30) wz rfl (ai (aa (dX (bg hD_21 hn_22) wz rfl (ae (vI ((k_18+1:Nat):Int)) wz rfl (ai ?_))))))
    obtain rfl:=ah hc_26
    exact aV (k_18+1,l_19,a_30,n_32) ⟨hL_27,aQ hD_21⟩ (ls_ _) rfl (aJ rfl)
  ·rintro ⟨s_23,n_25⟩ ho_ sl_ H_ hp_ hq_
   subst ho_
   refine aN _ hp_ hq_ (af (aa (ae (kV b_15 n_25 4 s_23) wz rfl (ae (kV b_15 n_25 4 s_23) wz rfl (ai ?_)))))
   obtain ⟨_,hk_,hF⟩:=bind_some hF
   refine wH_re (v':=(gV n_25 4 s_23)) 2 rfl (kV_g hk_) (wH_reH (b':=gB 4 Receipt.enc s_23) 0 rfl (kB_g hk_) ?_)
   obtain rfl:=ah hF
   exact ax (finG (outs:=([]:List Box)) (.inr rfl) 0 rfl rfl rfl (by kernel_rfl) (by kernel_rfl))
theorem uG {x_1:Receipt} {y_2:Receipt} {r:Bool} (hF:iV x_1 y_2=some r) :
  FnM Tryz.prog 116 [(.d (.agg (Receipt.enc x_1))),(.d (.agg (Receipt.enc y_2)))] [] (vB r) []:=by
 refine FnM.of_wH ⟨Tryz.prog,9,[],[]⟩ rfl Tryz.func116 rfl rfl (lb_ rfl) (by kernel_rfl) ?_
 unfold iV at hF
 refine af (aa (dW 0 (.inl rfl) [(vS x_1.Player),(vS x_1.Alert),(vI x_1.At),(vB x_1.Seen)] rfl rfl wz (λn_3=>dW 0 (.inl rfl) [(vS y_2.Player),(vS y_2.Alert),(vI y_2.At),(vB y_2.Seen)] rfl rfl wz (λn_4=>ae (vB false) wz rfl (ai (af (aa (aF 0 0 il ft jh oh rfl rfl (.d (.agg (Receipt.enc x_1))) rfl wz (aF 0 1 il ft jh oh rfl rfl (.d (.agg (Receipt.enc y_2))) rfl wz ?_)))))))))
 obtain ⟨r_5,hr_6,hF⟩:=bind_some hF
 refine aB (jV hr_6) rfl Md rfl rfl rfl rfl wz (ae (vB (r_5==0)) wz rfl (ae (vB (r_5==0)) wz rfl (ai ?_)))
 obtain rfl:=ah hF
 exact ax (aR (.inr rfl) [(vB (r_5==0))] ⟨rfl,trivial⟩ rfl rfl rfl)
theorem jL {s_1:(List Receipt)} {r:(List Receipt)} (hF:aX s_1=some r) :
  FnM Tryz.prog 115 [(dV (av 0) 4 s_1),(.fn 116 [])] (([]:List Box)++gI 4 Receipt.enc s_1) (vL Receipt.enc r) (([]:List Box).map some++gT s_1 none):=by
 refine FnM.of_wHv ⟨Tryz.prog,66,[],[]⟩ rfl Tryz.func115 rfl rfl (lb_ rfl) (by kernel_rfl) ?_
 unfold aX at hF
 refine af (aa (ae .nil wz rfl (ai (af (af (aa (ae (dV (av 0) 4 s_1) wz rfl (BP nE rfl wz (ae (vB (decide ((s_1.length:Int)<2))) wz rfl (ai ?_))))))))))
 rcases ak hF with⟨hc_3,hF⟩|⟨hc_3,hF⟩
 ·refine aA rfl hc_3 (af (aa (ae (dV (av 0) 4 s_1) wz rfl (ae (dV (av 0) 4 s_1) wz rfl (ai (jv 0 rfl (oO 0 0 rfl rfl (oO 4 0 rfl rfl (oO 8 0 rfl rfl (oO 11 0 rfl rfl (xy (i:=0) rfl ?_)))))))))))
  obtain rfl:=ah hF
  exact ax (DN (bs:=([]:List Box)) (os:=([]:List Box)) (xs:=s_1) (o:=none) (.inr rfl) [(vL Receipt.enc s_1)] ⟨rfl,trivial⟩ rfl rfl rfl rfl rfl (by kernel_rfl) sW rfl)
 ·refine ay rfl hc_3 (au (af (af (aa (ae (vI 1) wz rfl (ai ?_))))))
  obtain ⟨o_12,hj_13,hF⟩:=bind_some hF
  obtain ⟨nq_57,hj_13⟩:=iR hj_13
  refine aG (β:=(Int)) (λ(s_9:Int)=>([(0,(dV (av 0) 4 s_1))]:SL_)) (λ(s_9:Int)=>([((av 0),gB 4 Receipt.enc s_1)]:Hp)) (λp=>o_12 = .go p) ?_ ?_
  ·refine aD (bf (β:=Nat×(Int)) (λp=>(λ(k_4:Nat) (s_9:Int)=>([(0,(dV (av 0) 4 s_1)),(1,(.fn 116 [])),(5,(vI s_9))]:SL_)) p.1 p.2) (λp=>(λ(k_4:Nat) (s_9:Int)=>([((av 0),gB 4 Receipt.enc s_1)]:Hp)) p.1 p.2) (λp=>iterN (λs=>aK s_1 s) p.1 p.2=some o_12) (λp=>p.1) (nq_57,1) hj_13 rfl (aJ rfl) ?_)
   rintro ⟨k_4,s_9⟩ hL_11
   dsimp only at hL_11
   cases k_4 with
   | zero=>cases hL_11
   | succ k_4 =>
    obtain ⟨c_,hc_10,hL_11⟩:=bind_some hL_11
    unfold aK at hc_10
    refine af (af (aa (ae (vI s_9) wz rfl (ae (dV (av 0) 4 s_1) wz rfl (BP nE rfl wz (ae (vB (decide (s_9<(s_1.length:Int)))) wz rfl (ai ?_)))))))
    rcases ak hc_10 with⟨hc_14,hc_10⟩|⟨hc_14,hc_10⟩
    ·refine aA rfl hc_14 (au (af (aD (af (bR (ae (.fn 116 []) wz rfl (ae (dV (av 0) 4 s_1) wz rfl (ae (vI s_9) wz rfl ?_))))))))
     obtain ⟨_,hi_15,hc_10⟩:=bind_some hc_10
     refine tL qQ rfl rfl (qx hi_15) (mq hi_15) wz ?_
     obtain ⟨e_16,hy_17,hc_10⟩:=bind_some hc_10
     refine oP 4 0 (.inr (by kernel_rfl)) (λ_ _ ag=>trivial) jh oh rfl rfl hy_17 (.d (.agg (Receipt.enc e_16))) rfl wz (ae (dV (av 0) 4 s_1) wz rfl (ae (vI s_9) wz rfl (ae (vI (w64 (s_9-1))) wz rfl ?_)))
     obtain ⟨_,hi_18,hc_10⟩:=bind_some hc_10
     refine tL qQ rfl rfl (qx hi_18) (mq hi_18) wz ?_
     obtain ⟨e_19,hy_20,hc_10⟩:=bind_some hc_10
     refine oP 9 0 (.inr (by kernel_rfl)) (λ_ _ ag=>⟨.inl ⟨rfl,rfl⟩,trivial⟩) jh oh rfl rfl hy_20 (.d (.agg (Receipt.enc e_19))) rfl wz ?_
     obtain ⟨r_21,hr_22,hc_10⟩:=bind_some hc_10
     refine aB (uG hr_22) rfl hb116 rfl rfl rfl rfl wz (ai ?_)
     rcases ak hc_10 with⟨hc_23,hc_10⟩|⟨hc_23,hc_10⟩
     ·refine aA rfl hc_23 (af (aa (ae (dV (av 0) 4 s_1) wz rfl (ae (vI s_9) wz rfl ?_))))
      obtain ⟨_,hn_24,hc_10⟩:=bind_some hc_10
      replace hn_24:=M5 hn_24
      refine dK (v':=(vV (av 0) 4 s_1)) 0 rfl (qd hn_24) (dK (v':=(vV (av 0) 4 s_1)) 13 rfl (qd hn_24) (dK (v':=(vV (av 0) 4 s_1)) 19 rfl (qd hn_24) (dK (v':=(vV (av 0) 4 s_1)) 23 rfl (qd hn_24) (dK (v':=(vV (av 0) 4 s_1)) 29 rfl (qd hn_24) (Ef 0 rfl (JW hn_24) ?_)))))
      obtain ⟨_,hr_25,hc_10⟩:=bind_some hc_10
      refine yI nE jh rfl rfl hr_25 wz (ae (.vs (av 0) 4 ((s_9).toNat) (((s_1.length:Int)).toNat-(s_9).toNat)) wz rfl (ai (af (af (aa (ae (vI 1) wz rfl (ai ?_)))))))
      obtain ⟨o_34,hj_35,hc_10⟩:=bind_some hc_10
      obtain ⟨nq_56,hj_35⟩:=iR hj_35
      refine aG (β:=((List Receipt)×Int×Int)) (λ(s_31:(List Receipt)×Int×Int)=>([(0,(vV (av 0) 4 s_31.1)),(5,(vI s_31.2.1))]:SL_)) (λ(s_31:(List Receipt)×Int×Int)=>([((av 0),some (bV 4 Receipt.enc s_31.1))]:Hp)) (λp=>o_34 = .go p) ?_ ?_
      ·refine aD (bf (β:=Nat×((List Receipt)×Int×Int)) (λp=>(λ(k_26:Nat) (s_31:(List Receipt)×Int×Int)=>([(0,(vV (av 0) 4 s_31.1)),(1,(.fn 116 [])),(5,(vI s_31.2.1)),(6,(.vs (av 0) 4 ((s_9).toNat) (((s_1.length:Int)).toNat-(s_9).toNat))),(7,(vI s_31.2.2))]:SL_)) p.1 p.2) (λp=>(λ(k_26:Nat) (s_31:(List Receipt)×Int×Int)=>([((av 0),some (bV 4 Receipt.enc s_31.1))]:Hp)) p.1 p.2) (λp=>iterN (λs=>aM s_1 s_9 s) p.1 p.2=some o_34) (λp=>p.1) (nq_56,(s_1,s_9,1)) hj_35 rfl (aJ rfl) ?_)
       rintro ⟨k_26,s_31⟩ hL_33
       dsimp only at hL_33
       cases k_26 with
       | zero=>cases hL_33
       | succ k_26 =>
        obtain ⟨c_,hc_32,hL_33⟩:=bind_some hL_33
        unfold aM at hc_32
        refine af (af (aa (ae (vI s_31.2.2) wz rfl (ae (.vs (av 0) 4 ((s_9).toNat) (((s_1.length:Int)).toNat-(s_9).toNat)) wz rfl (LH nE rfl wz (ae (vB (decide (s_31.2.2<(((((s_1.length:Int)).toNat-(s_9).toNat):Nat):Int)))) wz rfl (ai ?_)))))))
        rcases ak hc_32 with⟨hc_36,hc_32⟩|⟨hc_36,hc_32⟩
        ·refine aA rfl hc_36 (au (af (aD (af (bR (ae (.fn 116 []) wz rfl (ae (.vs (av 0) 4 ((s_9).toNat) (((s_1.length:Int)).toNat-(s_9).toNat)) wz rfl (ae (vI s_31.2.2) wz rfl ?_))))))))
         obtain ⟨_,hi_37,hc_32⟩:=bind_some hc_32
         refine xS qQ rfl rfl (DW hi_37) (zA hi_37) wz ?_
         obtain ⟨e_38,hy_39,hc_32⟩:=bind_some hc_32
         refine BO 4 0 (.inr (by kernel_rfl)) (λ_ _ ag=>trivial) jh oh rfl rfl hy_39 (.d (.agg (Receipt.enc e_38))) rfl wz (ae (.vs (av 0) 4 ((s_9).toNat) (((s_1.length:Int)).toNat-(s_9).toNat)) wz rfl (ae (vI s_31.2.2) wz rfl (ae (vI (w64 (s_31.2.2-1))) wz rfl ?_)))
         obtain ⟨_,hi_40,hc_32⟩:=bind_some hc_32
         refine xS qQ rfl rfl (DW hi_40) (zA hi_40) wz ?_
         obtain ⟨e_41,hy_42,hc_32⟩:=bind_some hc_32
         refine BO 9 0 (.inr (by kernel_rfl)) (λ_ _ ag=>⟨.inl ⟨rfl,rfl⟩,trivial⟩) jh oh rfl rfl hy_42 (.d (.agg (Receipt.enc e_41))) rfl wz ?_
         obtain ⟨r_43,hr_44,hc_32⟩:=bind_some hc_32
         refine aB (uG hr_44) rfl hb116 rfl rfl rfl rfl wz (ae (vB (!r_43)) wz rfl (ai ?_))
         obtain ⟨v_45,h_46,hc_32⟩:=bind_some hc_32
         refine aG (β:=Unit) (λ_=>([(0,(vV (av 0) 4 v_45.1)),(1,(.fn 116 [])),(5,(vI v_45.2)),(6,(.vs (av 0) 4 ((s_9).toNat) (((s_1.length:Int)).toNat-(s_9).toNat))),(7,(vI s_31.2.2))]:SL_)) (λ_=>([((av 0),some (bV 4 Receipt.enc v_45.1))]:Hp)) (λ_=>True) ?_ ?_
         ·rcases ak h_46 with⟨hc_47,h_46⟩|⟨hc_47,h_46⟩
          ·refine aA rfl hc_47 (af (aa (ae (vV (av 0) 4 s_31.1) wz rfl (ae (vI s_31.2.1) wz rfl (ae (.vs (av 0) 4 ((s_9).toNat) (((s_1.length:Int)).toNat-(s_9).toNat)) wz rfl (ae (vI s_31.2.2) wz rfl ?_))))))
           obtain ⟨_,hi_48,h_46⟩:=bind_some h_46
           refine xS qQ rfl rfl (DW hi_48) (zA hi_48) wz ?_
           obtain ⟨e_49,hy_50,h_46⟩:=bind_some h_46
           refine BO 0 0 il ft jh oh rfl rfl hy_50 (.d (.agg (Receipt.enc e_49))) rfl wz ?_
           obtain ⟨_,hi_51,h_46⟩:=bind_some h_46
           refine xS qQ rfl rfl (qx hi_51) (mq hi_51) wz ?_
           obtain ⟨e_52,hy_53,h_46⟩:=bind_some h_46
           refine Ma 0 il ft 0 jh rfl rfl hy_53 e_49 rfl wz (dK (v':=(vV (av 0) 4 (s_31.1.set (0+(s_31.2.1).toNat) e_49))) 0 rfl (wB (by simp)) (dK (v':=(vV (av 0) 4 (s_31.1.set (0+(s_31.2.1).toNat) e_49))) 50 rfl (wB (by simp)) (ai (aa (ae (vI s_31.2.1) wz rfl (ae (vI (w64 (s_31.2.1+1))) wz rfl (ae (vI (w64 (s_31.2.1+1))) wz rfl (ai ?_))))))))
           obtain rfl:=ah h_46
           exact cu
          ·refine ay rfl hc_47 (au ?_)
           obtain rfl:=ah h_46
           exact cu
         ·rintro ⟨⟩ _ sl_ H_ hp_ hq_
          refine aN _ hp_ hq_ (aa (ae (vI s_31.2.2) wz rfl (ae (vI (w64 (s_31.2.2+1))) wz rfl (ae (vI (w64 (s_31.2.2+1))) wz rfl (ai ?_)))))
          obtain rfl:=ah hc_32
          exact aV (k_26,(v_45.1,v_45.2,(w64 (s_31.2.2+1)))) hL_33 (ls_ _) rfl (aJ rfl)
        ·refine ay rfl hc_36 (aW ?_)
         obtain rfl:=ah hc_32
         obtain rfl:=ah hL_33
         exact aZ ((s_31.1,s_31.2.1,s_31.2.2)) rfl rfl (aJ rfl)
      ·rintro s_31 ho_ sl_ H_ hp_ hq_
       subst ho_
       refine aN _ hp_ hq_ (af (aa (ae (vV (av 0) 4 s_31.1) wz rfl (ae (vI s_31.2.1) wz rfl ?_))))
       obtain ⟨_,hr_54,hc_10⟩:=bind_some hc_10
       refine yI nE jh rfl rfl hr_54 wz (JN (i:=0) 0 il ft (⟨(⟨#[]⟩:ByteArray),(⟨#[]⟩:ByteArray),0,false⟩:Receipt) Fv jh z91 rfl rfl rfl (by decide) rfl (qa hr_54) rfl wz (dK (v':=(vV (av 0) 4 (s_31.1.take ((s_31.2.1).toNat)++List.replicate (((s_31.1.length:Int)).toNat-(s_31.2.1).toNat) (⟨(⟨#[]⟩:ByteArray),(⟨#[]⟩:ByteArray),0,false⟩:Receipt)++s_31.1.drop (((s_31.2.1).toNat)+(((s_31.1.length:Int)).toNat-(s_31.2.1).toNat))))) 0 rfl (wB (xm (qa hr_54))) (dK (v':=(vV (av 0) 4 (s_31.1.take ((s_31.2.1).toNat)++List.replicate (((s_31.1.length:Int)).toNat-(s_31.2.1).toNat) (⟨(⟨#[]⟩:ByteArray),(⟨#[]⟩:ByteArray),0,false⟩:Receipt)++s_31.1.drop (((s_31.2.1).toNat)+(((s_31.1.length:Int)).toNat-(s_31.2.1).toNat))))) 59 rfl (wB (xm (qa hr_54))) (ai (af (aa (ae (vV (av 0) 4 (s_31.1.take ((s_31.2.1).toNat)++List.replicate (((s_31.1.length:Int)).toNat-(s_31.2.1).toNat) (⟨(⟨#[]⟩:ByteArray),(⟨#[]⟩:ByteArray),0,false⟩:Receipt)++s_31.1.drop (((s_31.2.1).toNat)+(((s_31.1.length:Int)).toNat-(s_31.2.1).toNat)))) wz rfl (ae (vI s_31.2.1) wz rfl ?_))))))))
       obtain ⟨_,hr_55,hc_10⟩:=bind_some hc_10
       refine Gm nE jh rfl rfl hr_55 wz (ae (.vs (av 0) 4 0 ((s_31.2.1).toNat)) wz rfl (ai (EZ 0 rfl (AV 0 0 rfl rfl (FN 4 0 rfl rfl (qa hr_55) (AV 59 0 rfl rfl (AV 62 0 rfl rfl (FN 64 0 rfl rfl (qa hr_55) (xy (i:=0) rfl ?_)))))))))
       obtain rfl:=ah hc_10
       obtain rfl:=ah hL_11
       obtain rfl:=ah hF
       exact ax (DN (bs:=([]:List Box)) (os:=([]:List Box)) (xs:=s_1) (o:=none) (.inr rfl) [(vL Receipt.enc (Ka (s_31.1.take ((s_31.2.1).toNat)++List.replicate (((s_31.1.length:Int)).toNat-(s_31.2.1).toNat) (⟨(⟨#[]⟩:ByteArray),(⟨#[]⟩:ByteArray),0,false⟩:Receipt)++s_31.1.drop (((s_31.2.1).toNat)+(((s_31.1.length:Int)).toNat-(s_31.2.1).toNat))) 0 ((s_31.2.1).toNat)))] ⟨rfl,trivial⟩ rfl rfl rfl rfl rfl (by kernel_rfl) sW rfl)
     ·refine ay rfl hc_23 (au (aa (ae (vI s_9) wz rfl (ae (vI (w64 (s_9+1))) wz rfl (ae (vI (w64 (s_9+1))) wz rfl (ai ?_))))))
      obtain rfl:=ah hc_10
      exact aV (k_4,(w64 (s_9+1))) hL_11 (ls_ _) rfl (aJ rfl)
    ·refine ay rfl hc_14 (aW ?_)
     obtain rfl:=ah hc_10
     obtain rfl:=ah hL_11
     exact aZ (s_9) rfl rfl (aJ rfl)
  ·rintro s_9 ho_ sl_ H_ hp_ hq_
   subst ho_
   refine aN _ hp_ hq_ (af (aa (ae (dV (av 0) 4 s_1) wz rfl (ae (dV (av 0) 4 s_1) wz rfl (ai (jv 0 rfl (oO 0 0 rfl rfl (oO 4 0 rfl rfl (oO 65 0 rfl rfl (xy (i:=0) rfl ?_))))))))))
   obtain rfl:=ah hF
   exact ax (DN (bs:=([]:List Box)) (os:=([]:List Box)) (xs:=s_1) (o:=none) (.inr rfl) [(vL Receipt.enc s_1)] ⟨rfl,trivial⟩ rfl rfl rfl rfl rfl (by kernel_rfl) sW rfl)
theorem Cg {a_1:(List Receipt)} {b_2:(List Receipt)} {r:(List Receipt)×Int} (hF:nU a_1 b_2=some r) :
  FnM Tryz.prog 48 [(vL Receipt.enc a_1),(vL Receipt.enc b_2)] [] (.tup [(vL Receipt.enc r.1),(vI r.2)]) []:=by
 refine FnM.of_wH ⟨Tryz.prog,34,[],[]⟩ rfl Tryz.func48 rfl rfl (lb_ rfl) (by kernel_rfl) ?_
 unfold nU at hF
 refine af (aa (ae .nil wz rfl (ae (vI 0) wz rfl (ai (af (af (aa (ae (vL Receipt.enc a_1) wz rfl (ae (vL Receipt.enc b_2) wz rfl (ae (.d (.agg [dl Receipt.enc a_1,dl Receipt.enc b_2])) wz (by kernel_rfl) (ae (vI 0) wz rfl (ai ?_))))))))))))
 obtain ⟨o_11,hj_12,hF⟩:=bind_some hF
 obtain ⟨hn_7,hj_12⟩:=aU hj_12
 refine aG (β:=(Unit)) (λ(s_8:Unit)=>([(0,(vL Receipt.enc a_1)),(1,(vL Receipt.enc b_2))]:SL_)) (λ(s_8:Unit)=>([]:Hp)) (λp=>o_11 = .go p) ?_ ?_
 ·refine aD (bf (β:=Nat×(List Nat)×(Unit)) (λp=>(λ(k_3:Nat) (l_4:List Nat) (s_8:Unit)=>([(0,(vL Receipt.enc a_1)),(1,(vL Receipt.enc b_2)),(12,(.d (.agg [dl Receipt.enc a_1,dl Receipt.enc b_2]))),(13,(vI (k_3:Int)))]:SL_)) p.1 p.2.1 p.2.2) (λp=>(λ(k_3:Nat) (l_4:List Nat) (s_8:Unit)=>([]:Hp)) p.1 p.2.1 p.2.2) (λp=>forR (λk x s=>l8 a_1 b_2 k x s) p.2.1 p.1 p.2.2=some o_11/\((List.range (2:Int).toNat)).drop p.1=p.2.1) (λp=>p.2.1.length) (0,(List.range (2:Int).toNat),()) ⟨hj_12,rfl⟩ rfl (aJ rfl) ?_)
  rintro ⟨k_3,l_4,s_8⟩ ⟨hL_10,hD_6⟩
  dsimp only at hL_10 hD_6
  cases l_4 with
  | nil =>
   obtain rfl:=ah hL_10
   refine af (aa (ae (vB (decide ((k_3:Int)<2))) wz rfl (ai ?_)))
   refine af (ay rfl (wZ hD_6) (aW ?_))
   exact aZ (s_8) rfl rfl (aJ rfl)
  | cons x_5 l_4 =>
   obtain ⟨c_,hc_9,hL_10⟩:=bind_some hL_10
   refine af (aa (ae (vB (decide ((k_3:Int)<2))) wz rfl (ai ?_)))
   refine af (aA rfl (ve hD_6) (au ?_))
   unfold l8 at hc_9
   refine af (aD (af (aa ?_)))
   obtain ⟨y_13,hy_14,hc_9⟩:=bind_some hc_9
   refine h_idxa (enc:=(eL Receipt.enc)) (xs:=([a_1,b_2]:List (List Receipt))) un198 sz89 ag89 rfl rfl rfl rfl hy_14 (λ_=>rfl) (.inr rfl) (vL Receipt.enc y_13) rfl wz (ae (vL Receipt.enc y_13) wz rfl (ai (af (aa (ae (vL Receipt.enc y_13) wz rfl ?_)))))
   obtain ⟨r_15,hr_16,hc_9⟩:=bind_some hc_9
   refine aB (kX hr_16) rfl hb52 rfl rfl rfl rfl wz (ae (vI r_15) wz rfl (ai (af (aa (ae (vI r_15) wz rfl (ae (vB (r_15 != 0)) wz rfl (ai ?_)))))))
   rcases ak hc_9 with⟨hc_17,hc_9⟩|⟨hc_17,hc_9⟩
   ·refine aA rfl hc_17 (af (aa (ae (vI r_15) wz rfl (ae .nil wz rfl (ae (vI r_15) wz rfl (ai ?_))))))
    obtain rfl:=ah hc_9
    obtain rfl:=ah hL_10
    obtain rfl:=ah hF
    exact ax (aR (.inr rfl) [.nil,(vI r_15)] ⟨rfl,⟨rfl,trivial⟩⟩ rfl rfl rfl)
   ·refine ay rfl hc_17 (au (aa (dX (xA hD_6 hn_7) wz rfl (ae (vI ((k_3+1:Nat):Int)) wz rfl (ai ?_)))))
    obtain rfl:=ah hc_9
    exact aV (k_3+1,l_4,()) ⟨hL_10,aQ hD_6⟩ (ls_ _) rfl (aJ rfl)
 ·rintro s_8 ho_ sl_ H_ hp_ hq_
  subst ho_
  refine aN _ hp_ hq_ (af (aa (ae (vL Receipt.enc a_1) wz rfl (ae (vL Receipt.enc b_2) wz rfl (dQ (([a_1,b_2]:List (List Receipt)).map (eL Receipt.enc)) JE ez253 rfl rfl rfl rfl rfl wz ?_)))))
  obtain ⟨r_18,hr_19,hF⟩:=bind_some hF
  refine Bi [] (gQ hr_19) rfl hb110 rfl (by kernel_rfl) (by kernel_rfl) (by kernel_rfl) (by kernel_rfl) (by kernel_rfl) rfl (by decide) (by kernel_rfl) wz ([]:Hp) (λ_=>by kernel_rfl) (λn_21=>ae (gV n_21 4 r_18) wz rfl (ai (af (aa (ae (gV n_21 4 r_18) wz rfl ?_)))))
  obtain ⟨r_22,hr_23,hF⟩:=bind_some hF
  obtain ⟨_,hs_24,hF⟩:=bind_some hF
  replace hs_24:=rH hs_24
  refine qY 0 [] 0 0 il ft (oW hr_23) rfl hb111 rfl rfl rfl (by kernel_rfl) rfl (.inl rfl) rfl (by kernel_rfl) (by kernel_rfl) (by kernel_rfl) (by kernel_rfl) rfl (by decide) (by kernel_rfl) wy (BS hs_24) wz ([(n_21,gB 4 Receipt.enc r_22)]:Hp) (by kernel_rfl) (dK (v':=(gV n_21 4 r_22)) 25 rfl (bU hs_24.symm) (dK (v':=(gV n_21 4 r_22)) 26 rfl (bU hs_24.symm) (dK (v':=(gV n_21 4 r_22)) 9 rfl (bU hs_24.symm) (ai (af (aa (ae (gV n_21 4 r_22) wz rfl ?_)))))))
  obtain ⟨r_25,hr_26,hF⟩:=bind_some hF
  refine qY 0 [] 0 0 il ft (jL hr_26) rfl hb115 rfl rfl rfl (by kernel_rfl) rfl (.inl rfl) rfl (by kernel_rfl) (by kernel_rfl) (by kernel_rfl) (by kernel_rfl) rfl (by decide) (by kernel_rfl) sW (λ_=>rfl) wz ([(n_21,none)]:Hp) (by kernel_rfl) (ae (vL Receipt.enc r_25) wz rfl (ai (af (af (aa (ae (vL Receipt.enc r_25) wz rfl (bN nE rfl wz (ae (vB (decide ((r_25.length:Int)>2000))) wz rfl (ai ?_)))))))))
  rcases ak hF with⟨hc_27,hF⟩|⟨hc_27,hF⟩
  ·refine aA rfl hc_27 (af (aa (ae .nil wz rfl (ae (vI 2) wz rfl (ai ?_)))))
   obtain rfl:=ah hF
   exact ax (aR (.inr rfl) [.nil,(vI 2)] ⟨rfl,⟨rfl,trivial⟩⟩ rfl rfl rfl)
  ·refine ay rfl hc_27 (au (af (aa (ae (vL Receipt.enc r_25) wz rfl (ae (vL Receipt.enc r_25) wz rfl (ae (vI 0) wz rfl (ai ?_)))))))
   obtain rfl:=ah hF
   exact ax (aR (.inr rfl) [(vL Receipt.enc r_25),(vI 0)] ⟨rfl,⟨rfl,trivial⟩⟩ rfl rfl rfl)
theorem fM {n_1:Int} {low_2:Int} {high_3:Int} {r:Bool} (hF:dB n_1 low_2 high_3=some r) :
  FnM Tryz.prog 84 [(vI n_1),(vI low_2),(vI high_3)] [] (vB r) []:=by
 refine FnM.of_wH ⟨Tryz.prog,15,[],[]⟩ rfl Tryz.func84 rfl rfl (lb_ rfl) (by kernel_rfl) ?_
 unfold dB at hF
 refine af (aa (ae (vB false) wz rfl (ai (af ?_))))
 obtain ⟨v_4,h_5,hF⟩:=bind_some hF
 refine aG (β:=Unit) (λ_=>([(6,(vB v_4))]:SL_)) (λ_=>([]:Hp)) (λ_=>True) ?_ ?_
 ·refine aa (ae (vI n_1) wz rfl (ae (vI low_2) wz rfl (ae (vB (decide (n_1<low_2))) wz rfl ?_)))
  rcases ak h_5 with⟨hc_6,h_5⟩|⟨hc_6,h_5⟩
  ·refine aC rfl hc_6 wz (aj wa (aj wa (aj wa (ae (vB true) wz rfl (ae (vB true) wz rfl (ai ?_))))))
   obtain rfl:=ah h_5
   exact cu
  ·refine aC rfl hc_6 wz (ae (vI n_1) wa rfl (ae (vI high_3) wa rfl (ae (vB (decide (n_1>high_3))) wa rfl (ae (vB (decide (n_1>high_3))) wz rfl (ae (vB (decide (n_1>high_3))) wz rfl (ai ?_))))))
   obtain rfl:=ah h_5
   exact cu
 ·rintro ⟨⟩ _ sl_ H_ hp_ hq_
  refine aN _ hp_ hq_ ?_
  obtain rfl:=ah hF
  exact ax (aR (.inr rfl) [(vB v_4)] ⟨rfl,trivial⟩ rfl rfl rfl)
theorem yg {a_1:Alert} {r:Int} (hF:jf a_1=some r) :
  FnM Tryz.prog 268 [(.d (.agg (Alert.enc a_1)))] [] (vI r) []:=by
 refine FnM.of_wH ⟨Tryz.prog,48,[],[]⟩ rfl Tryz.func268 rfl rfl (lb_ rfl) (by kernel_rfl) ?_
 unfold jf at hF
 refine af (aa (dW 0 (.inl rfl) [(vS a_1.Id),(vS a_1.Sender),(vI a_1.Kind),(vL eS a_1.Refs),(vI a_1.At),(vI a_1.Until),(vI a_1.Weight),(vL Rect.enc a_1.Areas),(vS a_1.Text)] rfl rfl wz (λn_2=>ae (vI 0) wz rfl (ai (af (af (aa (aI kQ rfl 3 rfl wz (aF 0 0 il ft xL zT rfl rfl (vL eS a_1.Refs) rfl wz (bN rA rfl wz (ae (vB (decide ((a_1.Refs.length:Int)>20))) wz rfl (ai ?_))))))))))))
 rcases ak hF with⟨hc_3,hF⟩|⟨hc_3,hF⟩
 ·refine aA rfl hc_3 (af (aa (ae (vI 2) wz rfl (ai ?_))))
  obtain rfl:=ah hF
  exact ax (aR (.inr rfl) [(vI 2)] ⟨rfl,trivial⟩ rfl rfl rfl)
 ·refine ay rfl hc_3 (au (af (af (aa (aI kQ rfl 3 rfl wz (aF 0 0 il ft xL zT rfl rfl (vL eS a_1.Refs) rfl wz (bN rA rfl wz (ae (vI 0) wz rfl (ai ?_)))))))))
  obtain ⟨o_12,hj_13,hF⟩:=bind_some hF
  obtain ⟨hn_8,hj_13⟩:=aU hj_13
  refine aG (β:=(Unit)) (λ(s_9:Unit)=>([(1,(.ref n_2 0 0))]:SL_)) (λ(s_9:Unit)=>([(n_2,some (.cells 9 [(vS a_1.Id),(vS a_1.Sender),(vI a_1.Kind),(vL eS a_1.Refs),(vI a_1.At),(vI a_1.Until),(vI a_1.Weight),(vL Rect.enc a_1.Areas),(vS a_1.Text)]))]:Hp)) (λp=>o_12 = .go p) ?_ ?_
  ·refine aD (bf (β:=Nat×(List ByteArray)×(Unit)) (λp=>(λ(k_4:Nat) (l_5:List ByteArray) (s_9:Unit)=>([(1,(.ref n_2 0 0)),(10,(vL eS a_1.Refs)),(11,(vI (a_1.Refs.length:Int))),(12,(vI (k_4:Int)))]:SL_)) p.1 p.2.1 p.2.2) (λp=>(λ(k_4:Nat) (l_5:List ByteArray) (s_9:Unit)=>([(n_2,some (.cells 9 [(vS a_1.Id),(vS a_1.Sender),(vI a_1.Kind),(vL eS a_1.Refs),(vI a_1.At),(vI a_1.Until),(vI a_1.Weight),(vL Rect.enc a_1.Areas),(vS a_1.Text)]))]:Hp)) p.1 p.2.1 p.2.2) (λp=>forR (λk x s=>fK a_1 k x s) p.2.1 p.1 p.2.2=some o_12/\(a_1.Refs).drop p.1=p.2.1) (λp=>p.2.1.length) (0,a_1.Refs,()) ⟨hj_13,rfl⟩ rfl (aJ rfl) ?_)
   rintro ⟨k_4,l_5,s_9⟩ ⟨hL_11,hD_7⟩
   dsimp only at hL_11 hD_7
   cases l_5 with
   | nil =>
    obtain rfl:=ah hL_11
    refine af (aa (ae (vB (decide ((k_4:Int)<(a_1.Refs.length:Int)))) wz rfl (ai ?_)))
    refine af (ay rfl (drop_nil hD_7) (aW ?_))
    exact aZ (s_9) rfl rfl (aJ rfl)
   | cons x_6 l_5 =>
    obtain ⟨c_,hc_10,hL_11⟩:=bind_some hL_11
    refine af (aa (ae (vB (decide ((k_4:Int)<(a_1.Refs.length:Int)))) wz rfl (ai ?_)))
    refine af (aA rfl (aY hD_7) (au ?_))
    unfold fK at hc_10
    refine af (aD (af (aa (ae (vI (k_4:Int)) wz rfl (fU jZ rfl rfl (bz hD_7) rfl wz (dn sz9 ag9 rfl (vS x_6) rfl wz (ae (vI (k_4:Int)) wz rfl (ae (vS x_6) wz rfl (ai (aD (af (aa (ae (vS x_6) wz rfl ?_)))))))))))))
    obtain ⟨r_14,hr_15,hc_10⟩:=bind_some hc_10
    refine aB (mM hr_15) rfl EA rfl rfl rfl rfl wz (ae (vB (!r_14)) wz rfl (ae (vB (!r_14)) wz rfl (ai ?_)))
    rcases ak hc_10 with⟨hc_16,hc_10⟩|⟨hc_16,hc_10⟩
    ·refine aA rfl hc_16 (af (aa (ae (vI 5) wz rfl (ai ?_))))
     obtain rfl:=ah hc_10
     obtain rfl:=ah hL_11
     obtain rfl:=ah hF
     exact ax (aR (.inr rfl) [(vI 5)] ⟨rfl,trivial⟩ rfl rfl rfl)
    ·refine ay rfl hc_16 (af ?_)
     obtain ⟨v_17,h_18,hc_10⟩:=bind_some hc_10
     refine aG (β:=Unit) (λ_=>([(1,(.ref n_2 0 0)),(4,(vS x_6)),(10,(vL eS a_1.Refs)),(11,(vI (a_1.Refs.length:Int))),(12,(vI (k_4:Int))),(21,(vB v_17))]:SL_)) (λ_=>([(n_2,some (.cells 9 [(vS a_1.Id),(vS a_1.Sender),(vI a_1.Kind),(vL eS a_1.Refs),(vI a_1.At),(vI a_1.Until),(vI a_1.Weight),(vL Rect.enc a_1.Areas),(vS a_1.Text)]))]:Hp)) (λ_=>True) ?_ ?_
     ·refine aa (ae (vI (k_4:Int)) wz rfl (ae (vB (decide ((k_4:Int)>0))) wz rfl ?_))
      rcases ak h_18 with⟨hc_19,h_18⟩|⟨hc_19,h_18⟩
      ·refine aC rfl hc_19 wz (ae (vS x_6) wa rfl (aI kQ rfl 3 rfl wa (aF 0 0 il ft xL zT rfl rfl (vL eS a_1.Refs) rfl wa (ae (vI (k_4:Int)) wa rfl (ae (vI (w64 ((k_4:Int)-1))) wa rfl ?_)))))
       obtain ⟨y_20,hy_21,h_18⟩:=bind_some h_18
       refine fU jZ rfl rfl hy_21 rfl wa (dn sz9 ag9 rfl (vS y_20) rfl wa (ae (vB (sLe x_6 y_20)) wa rfl (ae (vB (sLe x_6 y_20)) wz rfl (ae (vB (sLe x_6 y_20)) wz rfl (ai ?_)))))
       obtain rfl:=ah h_18
       exact cu
      ·refine aC rfl hc_19 wz (aj wa (aj wa (aj wa (aj wa (aj wa (aj wa (aj wa (aj wa (ae (vB false) wz rfl (ae (vB false) wz rfl (ai ?_)))))))))))
       obtain rfl:=ah h_18
       exact cu
     ·rintro ⟨⟩ _ sl_ H_ hp_ hq_
      refine aN _ hp_ hq_ ?_
      rcases ak hc_10 with⟨hc_22,hc_10⟩|⟨hc_22,hc_10⟩
      ·refine aA rfl hc_22 (af (aa (ae (vI 7) wz rfl (ai ?_))))
       obtain rfl:=ah hc_10
       obtain rfl:=ah hL_11
       obtain rfl:=ah hF
       exact ax (aR (.inr rfl) [(vI 7)] ⟨rfl,trivial⟩ rfl rfl rfl)
      ·refine ay rfl hc_22 (af (aa (ae (vS x_6) wz rfl (aI eD rfl 0 rfl wz (aF 0 0 il ft sz9 ag9 rfl rfl (vS a_1.Id) rfl wz (ae (vB (sEq x_6 a_1.Id)) wz rfl (ae (vB (sEq x_6 a_1.Id)) wz rfl (ai ?_))))))))
       rcases ak hc_10 with⟨hc_23,hc_10⟩|⟨hc_23,hc_10⟩
       ·refine aA rfl hc_23 (af (aa (ae (vI 14) wz rfl (ai ?_))))
        obtain rfl:=ah hc_10
        obtain rfl:=ah hL_11
        obtain rfl:=ah hF
        exact ax (aR (.inr rfl) [(vI 14)] ⟨rfl,trivial⟩ rfl rfl rfl)
       ·refine ay rfl hc_23 (au (aa (dX (bg hD_7 hn_8) wz rfl (ae (vI ((k_4+1:Nat):Int)) wz rfl (ai ?_)))))
        obtain rfl:=ah hc_10
        exact aV (k_4+1,l_5,()) ⟨hL_11,aQ hD_7⟩ (ls_ _) rfl (aJ rfl)
  ·rintro s_9 ho_ sl_ H_ hp_ hq_
   subst ho_
   refine aN _ hp_ hq_ (af (af (aa (aI lQ rfl 2 rfl wz (aF 0 0 il ft sz3 ag3 rfl rfl (vI a_1.Kind) rfl wz (ae (vB (a_1.Kind==1)) wz rfl (aI kQ rfl 3 rfl wz (aF 0 0 il ft xL zT rfl rfl (vL eS a_1.Refs) rfl wz (bN rA rfl wz (ae (vB ((a_1.Refs.length:Int)==0)) wz rfl (EI un4 rfl rfl wz (ai ?_))))))))))))
   rcases ak hF with⟨hc_24,hF⟩|⟨hc_24,hF⟩
   ·refine aA rfl hc_24 (af (aa (ae (vI 3) wz rfl (ai ?_))))
    obtain rfl:=ah hF
    exact ax (aR (.inr rfl) [(vI 3)] ⟨rfl,trivial⟩ rfl rfl rfl)
   ·refine ay rfl hc_24 (au (af (aa (ae (vI 0) wz rfl (ai ?_)))))
    obtain rfl:=ah hF
    exact ax (aR (.inr rfl) [(vI 0)] ⟨rfl,trivial⟩ rfl rfl rfl)
theorem xE {r_1:Rect} {r:Int} (hF:kv r_1=some r) :
  FnM Tryz.prog 73 [(.d (.agg (Rect.enc r_1)))] [] (vI r) []:=by
 refine FnM.of_wH ⟨Tryz.prog,25,[],[]⟩ rfl Tryz.func73 rfl rfl (lb_ rfl) (by kernel_rfl) ?_
 unfold kv at hF
 refine af (aa (dW 0 (.inl rfl) [(vI r_1.X),(vI r_1.Y),(vI r_1.W),(vI r_1.H)] rfl rfl wz (λn_2=>ae (vI 0) wz rfl (ai (af (af ?_))))))
 obtain ⟨v_3,h_4,hF⟩:=bind_some hF
 refine aG (β:=Unit) (λ_=>([(1,(.ref n_2 0 0)),(10,(vB v_3))]:SL_)) (λ_=>([(n_2,some (.cells 4 [(vI r_1.X),(vI r_1.Y),(vI r_1.W),(vI r_1.H)]))]:Hp)) (λ_=>True) ?_ ?_
 ·refine aa (aI vG rfl 0 rfl wz (aF 0 0 il ft sz3 ag3 rfl rfl (vI r_1.X) rfl wz ?_))
  obtain ⟨r_5,hr_6,h_4⟩:=bind_some h_4
  refine aB (fM hr_6) rfl BC rfl rfl rfl rfl wz ?_
  rcases ak h_4 with⟨hc_7,h_4⟩|⟨hc_7,h_4⟩
  ·refine aC rfl hc_7 wz (aj wa (aj wa (aj wa (ae (vB true) wz rfl (ai ?_)))))
   obtain rfl:=ah h_4
   exact cu
  ·refine aC rfl hc_7 wz (aI vk rfl 1 rfl wa (aF 0 0 il ft sz3 ag3 rfl rfl (vI r_1.Y) rfl wa ?_))
   obtain ⟨r_8,hr_9,h_4⟩:=bind_some h_4
   refine aB (fM hr_9) rfl BC rfl rfl rfl rfl wa (ae (vB r_8) wz rfl (ai ?_))
   obtain rfl:=ah h_4
   exact cu
 ·rintro ⟨⟩ _ sl_ H_ hp_ hq_
  refine aN _ hp_ hq_ ?_
  rcases ak hF with⟨hc_10,hF⟩|⟨hc_10,hF⟩
  ·refine aA rfl hc_10 (af (aa (ae (vI 1) wz rfl (ai ?_))))
   obtain rfl:=ah hF
   exact ax (aR (.inr rfl) [(vI 1)] ⟨rfl,trivial⟩ rfl rfl rfl)
  ·refine ay rfl hc_10 (au (af (af ?_)))
   obtain ⟨v_11,h_12,hF⟩:=bind_some hF
   refine aG (β:=Unit) (λ_=>([(24,(vB v_11))]:SL_)) (λ_=>([(n_2,some (.cells 4 [(vI r_1.X),(vI r_1.Y),(vI r_1.W),(vI r_1.H)]))]:Hp)) (λ_=>True) ?_ ?_
   ·refine aa (aI BG rfl 2 rfl wz (aF 0 0 il ft sz3 ag3 rfl rfl (vI r_1.W) rfl wz (aI vG rfl 0 rfl wz (aF 0 0 il ft sz3 ag3 rfl rfl (vI r_1.X) rfl wz (ae (vI (w64 (100000-r_1.X))) wz rfl ?_)))))
    obtain ⟨r_13,hr_14,h_12⟩:=bind_some h_12
    refine aB (fM hr_14) rfl BC rfl rfl rfl rfl wz ?_
    rcases ak h_12 with⟨hc_15,h_12⟩|⟨hc_15,h_12⟩
    ·refine aC rfl hc_15 wz (aj wa (aj wa (aj wa (aj wa (aj wa (aj wa (ae (vB true) wz rfl (ai ?_))))))))
     obtain rfl:=ah h_12
     exact cu
    ·refine aC rfl hc_15 wz (aI zy rfl 3 rfl wa (aF 0 0 il ft sz3 ag3 rfl rfl (vI r_1.H) rfl wa (aI vk rfl 1 rfl wa (aF 0 0 il ft sz3 ag3 rfl rfl (vI r_1.Y) rfl wa (ae (vI (w64 (100000-r_1.Y))) wa rfl ?_)))))
     obtain ⟨r_16,hr_17,h_12⟩:=bind_some h_12
     refine aB (fM hr_17) rfl BC rfl rfl rfl rfl wa (ae (vB r_16) wz rfl (ai ?_))
     obtain rfl:=ah h_12
     exact cu
   ·rintro ⟨⟩ _ sl_ H_ hp_ hq_
    refine aN _ hp_ hq_ ?_
    rcases ak hF with⟨hc_18,hF⟩|⟨hc_18,hF⟩
    ·refine aA rfl hc_18 (af (aa (ae (vI 1) wz rfl (ai ?_))))
     obtain rfl:=ah hF
     exact ax (aR (.inr rfl) [(vI 1)] ⟨rfl,trivial⟩ rfl rfl rfl)
    ·refine ay rfl hc_18 (au (af (aa (ae (vI 0) wz rfl (ai ?_)))))
     obtain rfl:=ah hF
     exact ax (aR (.inr rfl) [(vI 0)] ⟨rfl,trivial⟩ rfl rfl rfl)
theorem lU {x0:ByteArray} {r:Bool} (hF:gG x0=some r) :
  FnM Tryz.prog 208 [(vS x0)] [] (vB r) [] :=
 Lm rfl Tryz.utf8_ValidString KA hF
theorem tK {s_1:ByteArray} {c_2:Int} {r:ByteArray} (hF:strings_trimRightByte s_1 c_2=some r) :
  FnM Tryz.prog 273 [(vS s_1),(.d (.int .u8 c_2))] [] (vS r) []:=by
 refine FnM.of_wH ⟨Tryz.prog,23,[],[]⟩ rfl Tryz.func273 rfl rfl (lb_ rfl) (by kernel_rfl) ?_
 unfold strings_trimRightByte at hF
 refine af (aa (ae (vS (⟨#[]⟩:ByteArray)) wz rfl (ai (af ?_))))
 obtain ⟨o_11,hj_12,hF⟩:=bind_some hF
 obtain ⟨nq_21,hj_12⟩:=iR hj_12
 refine aG (β:=(ByteArray)) (λ(s_8:ByteArray)=>([(0,(vS s_8))]:SL_)) (λ(s_8:ByteArray)=>([]:Hp)) (λp=>o_11 = .go p) ?_ ?_
 ·refine aD (bf (β:=Nat×(ByteArray)) (λp=>(λ(k_3:Nat) (s_8:ByteArray)=>([(0,(vS s_8)),(1,(.d (.int .u8 c_2)))]:SL_)) p.1 p.2) (λp=>(λ(k_3:Nat) (s_8:ByteArray)=>([]:Hp)) p.1 p.2) (λp=>iterN (λs=>iU c_2 s) p.1 p.2=some o_11) (λp=>p.1) (nq_21,s_1) hj_12 rfl (aJ rfl) ?_)
  rintro ⟨k_3,s_8⟩ hL_10
  dsimp only at hL_10
  cases k_3 with
  | zero=>cases hL_10
  | succ k_3 =>
   obtain ⟨c_,hc_9,hL_10⟩:=bind_some hL_10
   unfold iU at hc_9
   refine af (af ?_)
   obtain ⟨v_13,h_14,hc_9⟩:=bind_some hc_9
   refine aG (β:=Unit) (λ_=>([(0,(vS s_8)),(1,(.d (.int .u8 c_2))),(16,(vB v_13))]:SL_)) (λ_=>([]:Hp)) (λ_=>True) ?_ ?_
   ·refine aa (ae (vS s_8) wz rfl (qC un9 rfl wz (ae (vB (decide ((s_8.size:Int)>0))) wz rfl ?_)))
    rcases ak h_14 with⟨hc_15,h_14⟩|⟨hc_15,h_14⟩
    ·refine aC rfl hc_15 wz (ae (vS s_8) wa rfl (ae (vS s_8) wa rfl (qC un9 rfl wa (ae (vI (w64 ((s_8.size:Int)-1))) wa rfl ?_))))
     obtain ⟨b_16,hy_17,h_14⟩:=bind_some h_14
     refine tJ un9 rfl rfl hy_17 wa (ae (.d (.int .u8 c_2)) wa rfl (ae (vB ((b_16.toNat:Int)==c_2)) wa rfl (ae (vB ((b_16.toNat:Int)==c_2)) wz rfl (ai ?_))))
     obtain rfl:=ah h_14
     exact cu
    ·refine aC rfl hc_15 wz (aj wa (aj wa (aj wa (aj wa (aj wa (aj wa (aj wa (ae (vB false) wz rfl (ai ?_)))))))))
     obtain rfl:=ah h_14
     exact cu
   ·rintro ⟨⟩ _ sl_ H_ hp_ hq_
    refine aN _ hp_ hq_ ?_
    rcases ak hc_9 with⟨hc_18,hc_9⟩|⟨hc_18,hc_9⟩
    ·refine aA rfl hc_18 (au (aD (aa (ae (vS s_8) wz rfl (ae (vS s_8) wz rfl (qC un9 rfl wz (ae (vI (w64 ((s_8.size:Int)-1))) wz rfl ?_)))))))
     obtain ⟨y_19,hy_20,hc_9⟩:=bind_some hc_9
     refine wV un9 rfl rfl hy_20 wz (ae (vS y_19) wz rfl (ai ?_))
     obtain rfl:=ah hc_9
     exact aV (k_3,y_19) hL_10 (ls_ _) rfl (aJ rfl)
    ·refine ay rfl hc_18 (aW ?_)
     obtain rfl:=ah hc_9
     obtain rfl:=ah hL_10
     exact aZ (s_8) rfl rfl (aJ rfl)
 ·rintro s_8 ho_ sl_ H_ hp_ hq_
  subst ho_
  refine aN _ hp_ hq_ (af (aa (ae (vS s_8) wz rfl (ae (vS s_8) wz rfl (ai ?_)))))
  obtain rfl:=ah hF
  exact ax (aR (.inr rfl) [(vS s_8)] ⟨rfl,trivial⟩ rfl rfl rfl)
theorem uy {s_1:ByteArray} {c_2:Int} {r:ByteArray} (hF:strings_trimLeftByte s_1 c_2=some r) :
  FnM Tryz.prog 272 [(vS s_1),(.d (.int .u8 c_2))] [] (vS r) []:=by
 refine FnM.of_wH ⟨Tryz.prog,17,[],[]⟩ rfl Tryz.func272 rfl rfl (lb_ rfl) (by kernel_rfl) ?_
 unfold strings_trimLeftByte at hF
 refine af (aa (ae (vS (⟨#[]⟩:ByteArray)) wz rfl (ai (af ?_))))
 obtain ⟨o_11,hj_12,hF⟩:=bind_some hF
 obtain ⟨nq_21,hj_12⟩:=iR hj_12
 refine aG (β:=(ByteArray)) (λ(s_8:ByteArray)=>([(0,(vS s_8))]:SL_)) (λ(s_8:ByteArray)=>([]:Hp)) (λp=>o_11 = .go p) ?_ ?_
 ·refine aD (bf (β:=Nat×(ByteArray)) (λp=>(λ(k_3:Nat) (s_8:ByteArray)=>([(0,(vS s_8)),(1,(.d (.int .u8 c_2)))]:SL_)) p.1 p.2) (λp=>(λ(k_3:Nat) (s_8:ByteArray)=>([]:Hp)) p.1 p.2) (λp=>iterN (λs=>ja c_2 s) p.1 p.2=some o_11) (λp=>p.1) (nq_21,s_1) hj_12 rfl (aJ rfl) ?_)
  rintro ⟨k_3,s_8⟩ hL_10
  dsimp only at hL_10
  cases k_3 with
  | zero=>cases hL_10
  | succ k_3 =>
   obtain ⟨c_,hc_9,hL_10⟩:=bind_some hL_10
   unfold ja at hc_9
   refine af (af ?_)
   obtain ⟨v_13,h_14,hc_9⟩:=bind_some hc_9
   refine aG (β:=Unit) (λ_=>([(0,(vS s_8)),(1,(.d (.int .u8 c_2))),(13,(vB v_13))]:SL_)) (λ_=>([]:Hp)) (λ_=>True) ?_ ?_
   ·refine aa (ae (vS s_8) wz rfl (qC un9 rfl wz (ae (vB (decide ((s_8.size:Int)>0))) wz rfl ?_)))
    rcases ak h_14 with⟨hc_15,h_14⟩|⟨hc_15,h_14⟩
    ·refine aC rfl hc_15 wz (ae (vS s_8) wa rfl ?_)
     obtain ⟨b_16,hy_17,h_14⟩:=bind_some h_14
     refine tJ un9 rfl rfl hy_17 wa (ae (.d (.int .u8 c_2)) wa rfl (ae (vB ((b_16.toNat:Int)==c_2)) wa rfl (ae (vB ((b_16.toNat:Int)==c_2)) wz rfl (ai ?_))))
     obtain rfl:=ah h_14
     exact cu
    ·refine aC rfl hc_15 wz (aj wa (aj wa (aj wa (aj wa (ae (vB false) wz rfl (ai ?_))))))
     obtain rfl:=ah h_14
     exact cu
   ·rintro ⟨⟩ _ sl_ H_ hp_ hq_
    refine aN _ hp_ hq_ ?_
    rcases ak hc_9 with⟨hc_18,hc_9⟩|⟨hc_18,hc_9⟩
    ·refine aA rfl hc_18 (au (aD (aa (ae (vS s_8) wz rfl ?_))))
     obtain ⟨y_19,hy_20,hc_9⟩:=bind_some hc_9
     refine BV un9 rfl rfl hy_20 wz (ae (vS y_19) wz rfl (ai ?_))
     obtain rfl:=ah hc_9
     exact aV (k_3,y_19) hL_10 (ls_ _) rfl (aJ rfl)
    ·refine ay rfl hc_18 (aW ?_)
     obtain rfl:=ah hc_9
     obtain rfl:=ah hL_10
     exact aZ (s_8) rfl rfl (aJ rfl)
 ·rintro s_8 ho_ sl_ H_ hp_ hq_
  subst ho_
  refine aN _ hp_ hq_ (af (aa (ae (vS s_8) wz rfl (ae (vS s_8) wz rfl (ai ?_)))))
  obtain rfl:=ah hF
  exact ax (aR (.inr rfl) [(vS s_8)] ⟨rfl,trivial⟩ rfl rfl rfl)
theorem vM {s_1:ByteArray} {cutset_2:ByteArray} {r:ByteArray} (hF:mK s_1 cutset_2=some r) :
  FnM Tryz.prog 211 [(vS s_1),(vS cutset_2)] [] (vS r) []:=by
 refine FnM.of_wH ⟨Tryz.prog,43,[],[]⟩ rfl Tryz.func211 rfl rfl (lb_ rfl) (by kernel_rfl) ?_
 unfold mK at hF
 refine af (aa (ae (vS (⟨#[]⟩:ByteArray)) wz rfl (ai (af (af ?_)))))
 obtain ⟨v_3,h_4,hF⟩:=bind_some hF
 refine aG (β:=Unit) (λ_=>([(0,(vS s_1)),(1,(vS cutset_2)),(12,(vB v_3))]:SL_)) (λ_=>([]:Hp)) (λ_=>True) ?_ ?_
 ·refine aa (ae (vS s_1) wz rfl (ae (vB (sEq s_1 (⟨#[]⟩:ByteArray))) wz rfl ?_))
  rcases ak h_4 with⟨hc_5,h_4⟩|⟨hc_5,h_4⟩
  ·refine aC rfl hc_5 wz (aj wa (aj wa (ae (vB true) wz rfl (ai ?_))))
   obtain rfl:=ah h_4
   exact cu
  ·refine aC rfl hc_5 wz (ae (vS cutset_2) wa rfl (ae (vB (sEq cutset_2 (⟨#[]⟩:ByteArray))) wa rfl (ae (vB (sEq cutset_2 (⟨#[]⟩:ByteArray))) wz rfl (ai ?_))))
   obtain rfl:=ah h_4
   exact cu
 ·rintro ⟨⟩ _ sl_ H_ hp_ hq_
  refine aN _ hp_ hq_ ?_
  rcases ak hF with⟨hc_6,hF⟩|⟨hc_6,hF⟩
  ·refine aA rfl hc_6 (af (aa (ae (vS s_1) wz rfl (ae (vS s_1) wz rfl (ai ?_)))))
   obtain rfl:=ah hF
   exact ax (aR (.inr rfl) [(vS s_1)] ⟨rfl,trivial⟩ rfl rfl rfl)
  ·refine ay rfl hc_6 (au (af (af ?_)))
   obtain ⟨v_7,h_8,hF⟩:=bind_some hF
   refine aG (β:=Unit) (λ_=>([(0,(vS s_1)),(1,(vS cutset_2)),(21,(vB v_7))]:SL_)) (λ_=>([]:Hp)) (λ_=>True) ?_ ?_
   ·refine aa (ae (vS cutset_2) wz rfl (qC un9 rfl wz (ae (vB ((cutset_2.size:Int)==1)) wz rfl ?_)))
    rcases ak h_8 with⟨hc_9,h_8⟩|⟨hc_9,h_8⟩
    ·refine aC rfl hc_9 wz (ae (vS cutset_2) wa rfl ?_)
     obtain ⟨b_10,hy_11,h_8⟩:=bind_some h_8
     refine tJ un9 rfl rfl hy_11 wa (ae (vB (decide ((b_10.toNat:Int)<128))) wa rfl (ae (vB (decide ((b_10.toNat:Int)<128))) wz rfl (ai ?_)))
     obtain rfl:=ah h_8
     exact cu
    ·refine aC rfl hc_9 wz (aj wa (aj wa (aj wa (ae (vB false) wz rfl (ai ?_)))))
     obtain rfl:=ah h_8
     exact cu
   ·rintro ⟨⟩ _ sl_ H_ hp_ hq_
    refine aN _ hp_ hq_ ?_
    rcases ak hF with⟨hc_12,hF⟩|⟨hc_12,hF⟩
    ·refine aA rfl hc_12 (af (bR (ae (vS s_1) wz rfl (ae (vS cutset_2) wz rfl ?_))))
     obtain ⟨b_13,hy_14,hF⟩:=bind_some hF
     refine tJ un9 rfl rfl hy_14 wz ?_
     obtain ⟨r_15,hr_16,hF⟩:=bind_some hF
     refine aB (tK hr_16) rfl hb273 rfl rfl rfl rfl wz (ae (vS cutset_2) wz rfl ?_)
     obtain ⟨b_17,hy_18,hF⟩:=bind_some hF
     refine tJ un9 rfl rfl hy_18 wz ?_
     obtain ⟨r_19,hr_20,hF⟩:=bind_some hF
     refine aB (uy hr_20) rfl hb272 rfl rfl rfl rfl wz (ae (vS r_19) wz rfl (ai ?_))
     obtain rfl:=ah hF
     exact ax (aR (.inr rfl) [(vS r_19)] ⟨rfl,trivial⟩ rfl rfl rfl)
    ·refine ay rfl hc_12 (au (af (af (aa (ae (vS cutset_2) wz rfl ?_)))))
     cases hF
theorem qM {x0:ByteArray} {x1:ByteArray} {r:Bool} (hF:strings_Contains x0 x1=some r) :
  FnM Tryz.prog 212 [(vS x0),(vS x1)] [] (vB r) [] :=
 G9 Tryz.strings_Contains F3 hF
theorem Ci {s_1:ByteArray} {r:Bool} (hF:mr s_1=some r) :
  FnM Tryz.prog 269 [(vS s_1)] [] (vB r) []:=by
 refine FnM.of_wH ⟨Tryz.prog,33,[],[]⟩ rfl Tryz.func269 rfl rfl (lb_ rfl) (by kernel_rfl) ?_
 unfold mr at hF
 refine af (aa (ae (vB false) wz rfl (ai (af (af (aa (ae (vI 0) wz rfl (ai ?_))))))))
 obtain ⟨o_10,hj_11,hF⟩:=bind_some hF
 obtain ⟨nq_31,hj_11⟩:=iR hj_11
 refine aG (β:=(Int)) (λ(s_7:Int)=>([(0,(vS s_1))]:SL_)) (λ(s_7:Int)=>([]:Hp)) (λp=>o_10 = .go p) ?_ ?_
 ·refine aD (bf (β:=Nat×(Int)) (λp=>(λ(k_2:Nat) (s_7:Int)=>([(0,(vS s_1)),(3,(vI s_7))]:SL_)) p.1 p.2) (λp=>(λ(k_2:Nat) (s_7:Int)=>([]:Hp)) p.1 p.2) (λp=>iterN (λs=>oq s_1 s) p.1 p.2=some o_10) (λp=>p.1) (nq_31,0) hj_11 rfl (aJ rfl) ?_)
  rintro ⟨k_2,s_7⟩ hL_9
  dsimp only at hL_9
  cases k_2 with
  | zero=>cases hL_9
  | succ k_2 =>
   obtain ⟨c_,hc_8,hL_9⟩:=bind_some hL_9
   unfold oq at hc_8
   refine af (af (aa (ae (vI s_7) wz rfl (ae (vS s_1) wz rfl (qC un9 rfl wz (ae (vB (decide (s_7<(s_1.size:Int)))) wz rfl (ai ?_)))))))
   rcases ak hc_8 with⟨hc_12,hc_8⟩|⟨hc_12,hc_8⟩
   ·refine aA rfl hc_12 (au (af (aD (af ?_))))
    obtain ⟨v_13,h_14,hc_8⟩:=bind_some hc_8
    refine aG (β:=Unit) (λ_=>([(0,(vS s_1)),(3,(vI s_7)),(19,(vB v_13))]:SL_)) (λ_=>([]:Hp)) (λ_=>True) ?_ ?_
    ·refine aa (ae (vS s_1) wz rfl (ae (vI s_7) wz rfl ?_))
     obtain ⟨b_15,hy_16,h_14⟩:=bind_some h_14
     refine tJ un9 rfl rfl hy_16 wz (ae (vB (decide ((b_15.toNat:Int)<32))) wz rfl ?_)
     rcases ak h_14 with⟨hc_17,h_14⟩|⟨hc_17,h_14⟩
     ·refine aC rfl hc_17 wz (aj wa (aj wa (aj wa (aj wa (ae (vB true) wz rfl (ai ?_))))))
      obtain rfl:=ah h_14
      exact cu
     ·refine aC rfl hc_17 wz (ae (vS s_1) wa rfl (ae (vI s_7) wa rfl ?_))
      obtain ⟨b_18,hy_19,h_14⟩:=bind_some h_14
      refine tJ un9 rfl rfl hy_19 wa (ae (vB ((b_18.toNat:Int)==127)) wa rfl (ae (vB ((b_18.toNat:Int)==127)) wz rfl (ai ?_)))
      obtain rfl:=ah h_14
      exact cu
    ·rintro ⟨⟩ _ sl_ H_ hp_ hq_
     refine aN _ hp_ hq_ ?_
     rcases ak hc_8 with⟨hc_20,hc_8⟩|⟨hc_20,hc_8⟩
     ·refine aA rfl hc_20 (af (aa (ae (vB false) wz rfl (ai ?_))))
      obtain rfl:=ah hc_8
      obtain rfl:=ah hL_9
      obtain rfl:=ah hF
      exact ax (aR (.inr rfl) [(vB false)] ⟨rfl,trivial⟩ rfl rfl rfl)
     ·refine ay rfl hc_20 (au (aa (ae (vI s_7) wz rfl (ae (vI (w64 (s_7+1))) wz rfl (ae (vI (w64 (s_7+1))) wz rfl (ai ?_))))))
      obtain rfl:=ah hc_8
      exact aV (k_2,(w64 (s_7+1))) hL_9 (ls_ _) rfl (aJ rfl)
   ·refine ay rfl hc_12 (aW ?_)
    obtain rfl:=ah hc_8
    obtain rfl:=ah hL_9
    exact aZ (s_7) rfl rfl (aJ rfl)
 ·rintro s_7 ho_ sl_ H_ hp_ hq_
  subst ho_
  refine aN _ hp_ hq_ (af ?_)
  obtain ⟨v_21,h_22,hF⟩:=bind_some hF
  refine aG (β:=Unit) (λ_=>([(2,(vB v_21))]:SL_)) (λ_=>([]:Hp)) (λ_=>True) ?_ ?_
  ·refine aa (ae (vS s_1) wz rfl ?_)
   obtain ⟨r_23,hr_24,h_22⟩:=bind_some h_22
   refine aB (lU hr_24) rfl hb208 rfl rfl rfl rfl wz ?_
   rcases ak h_22 with⟨hc_25,h_22⟩|⟨hc_25,h_22⟩
   ·refine aC rfl hc_25 wz (ae (vS s_1) wa rfl ?_)
    obtain ⟨r_26,hr_27,h_22⟩:=bind_some h_22
    refine aB (vM hr_27) rfl hb211 rfl rfl rfl rfl wa (ae (vS s_1) wa rfl (ae (vB (sEq r_26 s_1)) wa rfl (ae (vB (sEq r_26 s_1)) wz rfl ?_)))
    rcases ak h_22 with⟨hc_28,h_22⟩|⟨hc_28,h_22⟩
    ·refine aC rfl hc_28 wz (ae (vS s_1) wa rfl ?_)
     obtain ⟨r_29,hr_30,h_22⟩:=bind_some h_22
     refine aB (qM hr_30) rfl hb212 rfl rfl rfl rfl wa (ae (vB (!r_29)) wa rfl (ae (vB (!r_29)) wz rfl (ae (vB (!r_29)) wz rfl (ai ?_))))
     obtain rfl:=ah h_22
     exact cu
    ·refine aC rfl hc_28 wz (aj wa (aj wa (aj wa (ae (vB false) wz rfl (ae (vB false) wz rfl (ai ?_))))))
     obtain rfl:=ah h_22
     exact cu
   ·refine aC rfl hc_25 wz (aj wa (aj wa (aj wa (aj wa (ae (vB false) wz rfl (ae (vB false) wz rfl (aj wa (aj wa (aj wa (ae (vB false) wz rfl (ae (vB false) wz rfl (ai ?_))))))))))))
    obtain rfl:=ah h_22
    exact cu
  ·rintro ⟨⟩ _ sl_ H_ hp_ hq_
   refine aN _ hp_ hq_ ?_
   obtain rfl:=ah hF
   exact ax (aR (.inr rfl) [(vB v_21)] ⟨rfl,trivial⟩ rfl rfl rfl)
theorem xG {a_1:Alert} {r:Int} (hF:iL a_1=some r) :
  FnM Tryz.prog 205 [(.d (.agg (Alert.enc a_1)))] [] (vI r) []:=by
 refine FnM.of_wH ⟨Tryz.prog,92,[],[]⟩ rfl Tryz.func205 rfl rfl (lb_ rfl) (by kernel_rfl) ?_
 unfold iL at hF
 refine af (aa (dW 0 (.inl rfl) [(vS a_1.Id),(vS a_1.Sender),(vI a_1.Kind),(vL eS a_1.Refs),(vI a_1.At),(vI a_1.Until),(vI a_1.Weight),(vL Rect.enc a_1.Areas),(vS a_1.Text)] rfl rfl wz (λn_2=>ae (vI 0) wz rfl (ai (af (af ?_))))))
 obtain ⟨v_3,h_4,hF⟩:=bind_some hF
 refine aG (β:=Unit) (λ_=>([(1,(.ref n_2 0 0)),(17,(vB v_3))]:SL_)) (λ_=>([(n_2,some (.cells 9 [(vS a_1.Id),(vS a_1.Sender),(vI a_1.Kind),(vL eS a_1.Refs),(vI a_1.At),(vI a_1.Until),(vI a_1.Weight),(vL Rect.enc a_1.Areas),(vS a_1.Text)]))]:Hp)) (λ_=>True) ?_ ?_
 ·refine aa (aI eD rfl 0 rfl wz (aF 0 0 il ft sz9 ag9 rfl rfl (vS a_1.Id) rfl wz ?_))
  obtain ⟨r_5,hr_6,h_4⟩:=bind_some h_4
  refine aB (mM hr_6) rfl EA rfl rfl rfl rfl wz (ae (vB (!r_5)) wz rfl ?_)
  rcases ak h_4 with⟨hc_7,h_4⟩|⟨hc_7,h_4⟩
  ·refine aC rfl hc_7 wz (aj wa (aj wa (aj wa (aj wa (ae (vB true) wz rfl (ai ?_))))))
   obtain rfl:=ah h_4
   exact cu
  ·refine aC rfl hc_7 wz (aI vC rfl 1 rfl wa (aF 0 0 il ft sz9 ag9 rfl rfl (vS a_1.Sender) rfl wa ?_))
   obtain ⟨r_8,hr_9,h_4⟩:=bind_some h_4
   refine aB (mM hr_9) rfl EA rfl rfl rfl rfl wa (ae (vB (!r_8)) wa rfl (ae (vB (!r_8)) wz rfl (ai ?_)))
   obtain rfl:=ah h_4
   exact cu
 ·rintro ⟨⟩ _ sl_ H_ hp_ hq_
  refine aN _ hp_ hq_ ?_
  rcases ak hF with⟨hc_10,hF⟩|⟨hc_10,hF⟩
  ·refine aA rfl hc_10 (af (aa (ae (vI 5) wz rfl (ai ?_))))
   obtain rfl:=ah hF
   exact ax (aR (.inr rfl) [(vI 5)] ⟨rfl,trivial⟩ rfl rfl rfl)
  ·refine ay rfl hc_10 (au (af (af (aa (aI lQ rfl 2 rfl wz (aF 0 0 il ft sz3 ag3 rfl rfl (vI a_1.Kind) rfl wz ?_))))))
   obtain ⟨r_11,hr_12,hF⟩:=bind_some hF
   refine aB (fM hr_12) rfl BC rfl rfl rfl rfl wz (ai ?_)
   rcases ak hF with⟨hc_13,hF⟩|⟨hc_13,hF⟩
   ·refine aA rfl hc_13 (af (aa (ae (vI 4) wz rfl (ai ?_))))
    obtain rfl:=ah hF
    exact ax (aR (.inr rfl) [(vI 4)] ⟨rfl,trivial⟩ rfl rfl rfl)
   ·refine ay rfl hc_13 (au (af (af (aa (aF 0 0 il ft dF fJ rfl rfl (.d (.agg (Alert.enc a_1))) rfl wz ?_)))))
    obtain ⟨r_14,hr_15,hF⟩:=bind_some hF
    refine aB (yg hr_15) rfl hb268 rfl rfl rfl rfl wz (ae (vI r_14) wz rfl (ai (af (aa (ae (vI r_14) wz rfl (ae (vB (r_14 != 0)) wz rfl (ai ?_)))))))
    rcases ak hF with⟨hc_16,hF⟩|⟨hc_16,hF⟩
    ·refine aA rfl hc_16 (af (aa (ae (vI r_14) wz rfl (ae (vI r_14) wz rfl (ai ?_)))))
     obtain rfl:=ah hF
     exact ax (aR (.inr rfl) [(vI r_14)] ⟨rfl,trivial⟩ rfl rfl rfl)
    ·refine ay rfl hc_16 (au (af (af ?_)))
     obtain ⟨v_17,h_18,hF⟩:=bind_some hF
     refine aG (β:=Unit) (λ_=>([(1,(.ref n_2 0 0)),(45,(vB v_17))]:SL_)) (λ_=>([(n_2,some (.cells 9 [(vS a_1.Id),(vS a_1.Sender),(vI a_1.Kind),(vL eS a_1.Refs),(vI a_1.At),(vI a_1.Until),(vI a_1.Weight),(vL Rect.enc a_1.Areas),(vS a_1.Text)]))]:Hp)) (λ_=>True) ?_ ?_
     ·refine aa (aI fq rfl 4 rfl wz (aF 0 0 il ft sz3 ag3 rfl rfl (vI a_1.At) rfl wz ?_))
      obtain ⟨r_19,hr_20,h_18⟩:=bind_some h_18
      refine aB (kZ hr_20) rfl Gl rfl rfl rfl rfl wz (ae (vB (!r_19)) wz rfl ?_)
      rcases ak h_18 with⟨hc_21,h_18⟩|⟨hc_21,h_18⟩
      ·refine aC rfl hc_21 wz (aj wa (aj wa (aj wa (aj wa (aj wa (aj wa (aj wa (aj wa (aj wa (ae (vB true) wz rfl (ae (vB true) wz rfl (aj wa (aj wa (aj wa (ae (vB true) wz rfl (ai ?_))))))))))))))))
       obtain rfl:=ah h_18
       exact cu
      ·refine aC rfl hc_21 wz (aI xu rfl 5 rfl wa (aF 0 0 il ft sz3 ag3 rfl rfl (vI a_1.Until) rfl wa (aI fq rfl 4 rfl wa (aF 0 0 il ft sz3 ag3 rfl rfl (vI a_1.At) rfl wa (ae (vI (w64 (a_1.At+1))) wa rfl (aI fq rfl 4 rfl wa (aF 0 0 il ft sz3 ag3 rfl rfl (vI a_1.At) rfl wa (ae (vI (w64 (a_1.At+2592000000))) wa rfl ?_))))))))
       obtain ⟨r_22,hr_23,h_18⟩:=bind_some h_18
       refine aB (fM hr_23) rfl BC rfl rfl rfl rfl wa (ae (vB r_22) wz rfl ?_)
       rcases ak h_18 with⟨hc_24,h_18⟩|⟨hc_24,h_18⟩
       ·refine aC rfl hc_24 wz (aj wa (aj wa (aj wa (ae (vB true) wz rfl (ai ?_)))))
        obtain rfl:=ah h_18
        exact cu
       ·refine aC rfl hc_24 wz (aI Fe rfl 6 rfl wa (aF 0 0 il ft sz3 ag3 rfl rfl (vI a_1.Weight) rfl wa ?_))
        obtain ⟨r_25,hr_26,h_18⟩:=bind_some h_18
        refine aB (fM hr_26) rfl BC rfl rfl rfl rfl wa (ae (vB r_25) wz rfl (ai ?_))
        obtain rfl:=ah h_18
        exact cu
     ·rintro ⟨⟩ _ sl_ H_ hp_ hq_
      refine aN _ hp_ hq_ ?_
      rcases ak hF with⟨hc_27,hF⟩|⟨hc_27,hF⟩
      ·refine aA rfl hc_27 (af (aa (ae (vI 1) wz rfl (ai ?_))))
       obtain rfl:=ah hF
       exact ax (aR (.inr rfl) [(vI 1)] ⟨rfl,trivial⟩ rfl rfl rfl)
      ·refine ay rfl hc_27 (au (af (af (aa (aI oF rfl 7 rfl wz (aF 0 0 il ft BQ EE rfl rfl (vL Rect.enc a_1.Areas) rfl wz (bN H9 rfl wz (ae (vB (decide ((a_1.Areas.length:Int)>20))) wz rfl (ai ?_)))))))))
       rcases ak hF with⟨hc_28,hF⟩|⟨hc_28,hF⟩
       ·refine aA rfl hc_28 (af (aa (ae (vI 2) wz rfl (ai ?_))))
        obtain rfl:=ah hF
        exact ax (aR (.inr rfl) [(vI 2)] ⟨rfl,trivial⟩ rfl rfl rfl)
       ·refine ay rfl hc_28 (au (af (af (aa (aI oF rfl 7 rfl wz (aF 0 0 il ft BQ EE rfl rfl (vL Rect.enc a_1.Areas) rfl wz (bN H9 rfl wz (ae (vI 0) wz rfl (ai ?_)))))))))
        obtain ⟨o_37,hj_38,hF⟩:=bind_some hF
        obtain ⟨hn_33,hj_38⟩:=aU hj_38
        refine aG (β:=(Unit)) (λ(s_34:Unit)=>([(1,(.ref n_2 0 0))]:SL_)) (λ(s_34:Unit)=>([(n_2,some (.cells 9 [(vS a_1.Id),(vS a_1.Sender),(vI a_1.Kind),(vL eS a_1.Refs),(vI a_1.At),(vI a_1.Until),(vI a_1.Weight),(vL Rect.enc a_1.Areas),(vS a_1.Text)]))]:Hp)) (λp=>o_37 = .go p) ?_ ?_
        ·refine aD (bf (β:=Nat×(List Rect)×(Unit)) (λp=>(λ(k_29:Nat) (l_30:List Rect) (s_34:Unit)=>([(1,(.ref n_2 0 0)),(51,(vL Rect.enc a_1.Areas)),(52,(vI (a_1.Areas.length:Int))),(53,(vI (k_29:Int)))]:SL_)) p.1 p.2.1 p.2.2) (λp=>(λ(k_29:Nat) (l_30:List Rect) (s_34:Unit)=>([(n_2,some (.cells 9 [(vS a_1.Id),(vS a_1.Sender),(vI a_1.Kind),(vL eS a_1.Refs),(vI a_1.At),(vI a_1.Until),(vI a_1.Weight),(vL Rect.enc a_1.Areas),(vS a_1.Text)]))]:Hp)) p.1 p.2.1 p.2.2) (λp=>forR (λk x s=>fV k x s) p.2.1 p.1 p.2.2=some o_37/\(a_1.Areas).drop p.1=p.2.1) (λp=>p.2.1.length) (0,a_1.Areas,()) ⟨hj_38,rfl⟩ rfl (aJ rfl) ?_)
         rintro ⟨k_29,l_30,s_34⟩ ⟨hL_36,hD_32⟩
         dsimp only at hL_36 hD_32
         cases l_30 with
         | nil =>
          obtain rfl:=ah hL_36
          refine af (aa (ae (vB (decide ((k_29:Int)<(a_1.Areas.length:Int)))) wz rfl (ai ?_)))
          refine af (ay rfl (drop_nil hD_32) (aW ?_))
          exact aZ (s_34) rfl rfl (aJ rfl)
         | cons x_31 l_30 =>
          obtain ⟨c_,hc_35,hL_36⟩:=bind_some hL_36
          refine af (aa (ae (vB (decide ((k_29:Int)<(a_1.Areas.length:Int)))) wz rfl (ai ?_)))
          refine af (aA rfl (aY hD_32) (au ?_))
          unfold fV at hc_35
          refine af (aD (af (aa (fU Kw rfl rfl (bz hD_32) rfl wz (dn u7 Dn rfl (.d (.agg (Rect.enc x_31))) rfl wz (cK 0 (.inl rfl) z45 rfl wz (λn_39=>dJ 0 il ft 1 u7 rfl rfl [(vI x_31.X),(vI x_31.Y),(vI x_31.W),(vI x_31.H)] rfl wz (ai (af (aa (aF 0 1 il ft u7 Dn rfl rfl (.d (.agg (Rect.enc x_31))) rfl wz ?_)))))))))))
          obtain ⟨r_40,hr_41,hc_35⟩:=bind_some hc_35
          refine aB (xE hr_41) rfl hb73 rfl rfl rfl rfl wz (ae (vI r_40) wz rfl (ai (af (aa (ae (vI r_40) wz rfl (ae (vB (r_40 != 0)) wz rfl (ai ?_)))))))
          rcases ak hc_35 with⟨hc_42,hc_35⟩|⟨hc_42,hc_35⟩
          ·refine aA rfl hc_42 (af (aa (ae (vI r_40) wz rfl (ae (vI r_40) wz rfl (ai ?_)))))
           obtain rfl:=ah hc_35
           obtain rfl:=ah hL_36
           obtain rfl:=ah hF
           exact ax (aR (.inr rfl) [(vI r_40)] ⟨rfl,trivial⟩ rfl rfl rfl)
          ·refine ay rfl hc_42 (au (aa (dX (bg hD_32 hn_33) wz rfl (ae (vI ((k_29+1:Nat):Int)) wz rfl (ai ?_)))))
           obtain rfl:=ah hc_35
           exact aV (k_29+1,l_30,()) ⟨hL_36,aQ hD_32⟩ (ls_ _) rfl (aJ rfl)
        ·rintro s_34 ho_ sl_ H_ hp_ hq_
         subst ho_
         refine aN _ hp_ hq_ (af (aa (aI lQ rfl 2 rfl wz (aF 0 0 il ft sz3 ag3 rfl rfl (vI a_1.Kind) rfl wz (ae (vB (a_1.Kind==3)) wz rfl (ae (vB (a_1.Kind==3)) wz rfl (ai (af (aD (af (aa (ae (vB (a_1.Kind==3)) wz rfl (aI oF rfl 7 rfl wz (aF 0 0 il ft BQ EE rfl rfl (vL Rect.enc a_1.Areas) rfl wz (bN H9 rfl wz (ae (vB ((a_1.Areas.length:Int)==0)) wz rfl (EI un4 rfl rfl wz (ae (vB (!((a_1.Kind==3)==((a_1.Areas.length:Int)==0)))) wz rfl (ai ?_)))))))))))))))))))
         rcases ak hF with⟨hc_43,hF⟩|⟨hc_43,hF⟩
         ·refine aA rfl hc_43 (af (aa (ae (vI 3) wz rfl (ai ?_))))
          obtain rfl:=ah hF
          exact ax (aR (.inr rfl) [(vI 3)] ⟨rfl,trivial⟩ rfl rfl rfl)
         ·refine ay rfl hc_43 (af (aa (aI tu rfl 8 rfl wz (aF 0 0 il ft sz9 ag9 rfl rfl (vS a_1.Text) rfl wz (qC un9 rfl wz (ae (vB (decide ((a_1.Text.size:Int)>500))) wz rfl (ae (vB (decide ((a_1.Text.size:Int)>500))) wz rfl (ai ?_))))))))
          rcases ak hF with⟨hc_44,hF⟩|⟨hc_44,hF⟩
          ·refine aA rfl hc_44 (af (aa (ae (vI 2) wz rfl (ai ?_))))
           obtain rfl:=ah hF
           exact ax (aR (.inr rfl) [(vI 2)] ⟨rfl,trivial⟩ rfl rfl rfl)
          ·refine ay rfl hc_44 (af ?_)
           obtain ⟨v_45,h_46,hF⟩:=bind_some hF
           refine aG (β:=Unit) (λ_=>([(78,(vB v_45))]:SL_)) (λ_=>([(n_2,some (.cells 9 [(vS a_1.Id),(vS a_1.Sender),(vI a_1.Kind),(vL eS a_1.Refs),(vI a_1.At),(vI a_1.Until),(vI a_1.Weight),(vL Rect.enc a_1.Areas),(vS a_1.Text)]))]:Hp)) (λ_=>True) ?_ ?_
           ·refine aa (aI tu rfl 8 rfl wz (aF 0 0 il ft sz9 ag9 rfl rfl (vS a_1.Text) rfl wz ?_))
            obtain ⟨r_47,hr_48,h_46⟩:=bind_some h_46
            refine aB (Ci hr_48) rfl hb269 rfl rfl rfl rfl wz (ae (vB (!r_47)) wz rfl ?_)
            rcases ak h_46 with⟨hc_49,h_46⟩|⟨hc_49,h_46⟩
            ·refine aC rfl hc_49 wz (aj wa (aj wa (aj wa (aj wa (aj (wn rfl rfl) (aj (wn rfl rfl) (aj wa (ae (vB true) wz rfl (ae (vB true) wz rfl (ai ?_))))))))))
             obtain rfl:=ah h_46
             exact cu
            ·refine aC rfl hc_49 wz (aI tu rfl 8 rfl wa (aF 0 0 il ft sz9 ag9 rfl rfl (vS a_1.Text) rfl wa (ae (vB (sEq a_1.Text (⟨#[]⟩:ByteArray))) wa rfl ?_)))
             rcases ak h_46 with⟨hc_50,h_46⟩|⟨hc_50,h_46⟩
             ·refine aC rfl hc_50 wa (ae (vB (a_1.Kind==3)) wa rfl (ae (vB (!(a_1.Kind==3))) wa rfl (ae (vB (!(a_1.Kind==3))) wa rfl (ae (vB (!(a_1.Kind==3))) wz rfl (ae (vB (!(a_1.Kind==3))) wz rfl (ai ?_))))))
              obtain rfl:=ah h_46
              exact cu
             ·refine aC rfl hc_50 wa (aj wa (aj wa (ae (vB false) wa rfl (ae (vB false) wz rfl (ae (vB false) wz rfl (ai ?_))))))
              obtain rfl:=ah h_46
              exact cu
           ·rintro ⟨⟩ _ sl_ H_ hp_ hq_
            refine aN _ hp_ hq_ ?_
            rcases ak hF with⟨hc_51,hF⟩|⟨hc_51,hF⟩
            ·refine aA rfl hc_51 (af (aa (ae (vI 3) wz rfl (ai ?_))))
             obtain rfl:=ah hF
             exact ax (aR (.inr rfl) [(vI 3)] ⟨rfl,trivial⟩ rfl rfl rfl)
            ·refine ay rfl hc_51 (au (af (aa (ae (vI 0) wz rfl (ai ?_)))))
             obtain rfl:=ah hF
             exact ax (aR (.inr rfl) [(vI 0)] ⟨rfl,trivial⟩ rfl rfl rfl)
end Go.Proofs.YtjhcehhmdmbleaaGreatDoor.Law

