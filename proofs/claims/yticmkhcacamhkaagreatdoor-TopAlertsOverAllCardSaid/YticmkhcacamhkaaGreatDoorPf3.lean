/-
 The machine computes these plain functions (written by a program of ours).
-/
import Derived.Test.YticmkhcacamhkaaGreatDoorFacts
import Derived.Test.YticmkhcacamhkaaGreatDoorDefs
import Derived.Test.YticmkhcacamhkaaGreatDoorPf2
import Derived.Test.YticmkhcacamhkaaGreatDoorShelf
open Go Go.Eng Go.Proofs
namespace Go.Proofs.YticmkhcacamhkaaGreatDoor.Law
set_option maxRecDepth 100000
set_option linter.unusedVariables false
set_option maxHeartbeats 1000000
theorem xK {l_1:(List Alert)} {r:Int} (hF:kE l_1=some r) :
  FnM Tryz.prog 30 [(vL Alert.enc l_1)] [] (vI r) []:=by
 refine FnM.of_wH ⟨Tryz.prog,52,[],[]⟩ rfl Tryz.func30 rfl rfl (lb_ rfl) (by kernel_rfl) ?_
 unfold kE at hF
 refine af (aa (ae (vI 0) wz rfl (aj (af (af (aa (ae (vL Alert.enc l_1) wz rfl (bW FP rfl wz (ae (vB (decide ((l_1.length:Int)>300))) wz rfl (aj ?_))))))))))
 rcases au hF with⟨hc_2,hF⟩|⟨hc_2,hF⟩
 ·refine aC rfl hc_2 (af (aa (ae (vI 2) wz rfl (aj ?_))))
  obtain rfl:=ah hF
  exact aG (aU (.inr rfl) [(vI 2)] ⟨rfl,trivial⟩ rfl rfl rfl)
 ·refine aB rfl hc_2 (ax (af (af (aa (ae (vL Alert.enc l_1) wz rfl (bW FP rfl wz (ae (vI 0) wz rfl (aj ?_))))))))
  obtain ⟨o_11,hj_12,hF⟩:=bind_some hF
  obtain ⟨hn_7,hj_12⟩:=aV hj_12
  refine aD (β:=(Unit)) (λ(s_8:Unit)=>([(0,(vL Alert.enc l_1))]:SL_)) (λ(s_8:Unit)=>([]:Hp)) (λp=>o_11 = .go p) ?_ ?_
  ·refine ay (aS (β:=Nat×(List Alert)×(Unit)) (λp=>(λ(k_3:Nat) (l_4:List Alert) (s_8:Unit)=>([(0,(vL Alert.enc l_1)),(12,(vL Alert.enc l_1)),(13,(vI (l_1.length:Int))),(14,(vI (k_3:Int)))]:SL_)) p.1 p.2.1 p.2.2) (λp=>(λ(k_3:Nat) (l_4:List Alert) (s_8:Unit)=>([]:Hp)) p.1 p.2.1 p.2.2) (λp=>forR (λk x s=>jd l_1 k x s) p.2.1 p.1 p.2.2=some o_11/\(l_1).drop p.1=p.2.1) (λp=>p.2.1.length) (0,l_1,()) ⟨hj_12,rfl⟩ rfl (aJ rfl) ?_)
   rintro ⟨k_3,l_4,s_8⟩ ⟨hL_10,hD_6⟩
   dsimp only at hL_10 hD_6
   cases l_4 with
   | nil =>
    obtain rfl:=ah hL_10
    refine af (aa (ae (vB (decide ((k_3:Int)<(l_1.length:Int)))) wz rfl (aj ?_)))
    refine af (aB rfl (drop_nil hD_6) (aP ?_))
    exact aN (s_8) rfl rfl (aJ rfl)
   | cons x_5 l_4 =>
    obtain ⟨c_,hc_9,hL_10⟩:=bind_some hL_10
    refine af (aa (ae (vB (decide ((k_3:Int)<(l_1.length:Int)))) wz rfl (aj ?_)))
    refine af (aC rfl (bf hD_6) (ax ?_))
    unfold jd at hc_9
    refine af (ay (af (aa (ae (vI (k_3:Int)) wz rfl (dK uo rfl rfl (bG hD_6) rfl wz (bB lL qZ rfl (.d (.agg (Alert.enc x_5))) rfl wz (cK 0 (.inl rfl) z52 rfl wz (λn_13=>ae (vI (k_3:Int)) wz rfl (eD 0 il ft 0 lL rfl rfl [(vS x_5.Id),(vS x_5.Sender),(vI x_5.Kind),(vL eS x_5.Refs),(vI x_5.At),(vI x_5.Until),(vI x_5.Weight),(vL Rect.enc x_5.Areas),(vS x_5.Text)] rfl wz (aj (af (af (aa (aA 0 0 il ft lL qZ rfl rfl (.d (.agg (Alert.enc x_5))) rfl wz ?_))))))))))))))
    obtain ⟨r_14,hr_15,hc_9⟩:=bind_some hc_9
    refine aI (zq hr_15) rfl hb67 rfl rfl rfl rfl wz (ae (vI r_14) wz rfl (aj (af (aa (ae (vI r_14) wz rfl (ae (vB (r_14 != 0)) wz rfl (aj ?_)))))))
    rcases au hc_9 with⟨hc_16,hc_9⟩|⟨hc_16,hc_9⟩
    ·refine aC rfl hc_16 (af (aa (ae (vI r_14) wz rfl (ae (vI r_14) wz rfl (aj ?_)))))
     obtain rfl:=ah hc_9
     obtain rfl:=ah hL_10
     obtain rfl:=ah hF
     exact aG (aU (.inr rfl) [(vI r_14)] ⟨rfl,trivial⟩ rfl rfl rfl)
    ·refine aB rfl hc_16 (ax (af ?_))
     obtain ⟨v_17,h_18,hc_9⟩:=bind_some hc_9
     refine aD (β:=Unit) (λ_=>([(0,(vL Alert.enc l_1)),(12,(vL Alert.enc l_1)),(13,(vI (l_1.length:Int))),(14,(vI (k_3:Int))),(35,(vB v_17))]:SL_)) (λ_=>([(n_13,some (.cells 9 [(vS x_5.Id),(vS x_5.Sender),(vI x_5.Kind),(vL eS x_5.Refs),(vI x_5.At),(vI x_5.Until),(vI x_5.Weight),(vL Rect.enc x_5.Areas),(vS x_5.Text)]))]:Hp)) (λ_=>True) ?_ ?_
     ·refine aW (ae (vI (k_3:Int)) wz rfl (ae (vB (decide ((k_3:Int)>0))) wz rfl ?_))
      rcases au h_18 with⟨hc_19,h_18⟩|⟨hc_19,h_18⟩
      ·refine aF rfl hc_19 wz (ae (vL Alert.enc l_1) wa rfl (ae (vI (k_3:Int)) wa rfl (ae (vI (w64 ((k_3:Int)-1))) wa rfl ?_)))
       obtain ⟨y_20,hy_21,h_18⟩:=bind_some h_18
       refine dK uo rfl rfl hy_21 rfl wa (bB lL qZ rfl (.d (.agg (Alert.enc y_20))) rfl wa (aA 8 0 (.inr (by kernel_rfl)) (λ_ _ ag=>trivial) lL qZ rfl rfl (.d (.agg (Alert.enc x_5))) rfl wa ?_))
       obtain ⟨r_22,hr_23,h_18⟩:=bind_some h_18
       refine aI (vk hr_23) rfl hb68 rfl rfl rfl rfl wa (ae (vB (decide (r_22>=0))) wa rfl (ae (vB (decide (r_22>=0))) wz rfl (aj ?_)))
       obtain rfl:=ah h_18
       exact cu
      ·refine aF rfl hc_19 wz (ak wa (ak wa (ak wa (ak wa (ak wa (ak wa (ak wa (ak wa (ae (vB false) wz rfl (aj ?_))))))))))
       obtain rfl:=ah h_18
       exact cu
     ·rintro ⟨⟩ _ sl_ H_ hp_ hq_
      refine aL _ hp_ hq_ ?_
      rcases au hc_9 with⟨hc_24,hc_9⟩|⟨hc_24,hc_9⟩
      ·refine aC rfl hc_24 (af (aa (ae (vI 7) wz rfl (aj ?_))))
       obtain rfl:=ah hc_9
       obtain rfl:=ah hL_10
       obtain rfl:=ah hF
       exact aG (aU (.inr rfl) [(vI 7)] ⟨rfl,trivial⟩ rfl rfl rfl)
      ·refine aB rfl hc_24 (ax (aa (fu (bA hD_6 hn_7) wz rfl (ae (vI ((k_3+1:Nat):Int)) wz rfl (aj ?_)))))
       obtain rfl:=ah hc_9
       exact aO (k_3+1,l_4,()) ⟨hL_10,aR hD_6⟩ (ls_ _) rfl (aJ rfl)
  ·rintro s_8 ho_ sl_ H_ hp_ hq_
   subst ho_
   refine aL _ hp_ hq_ (af (aa (h_mkmap 0 (.inl rfl) wz (λn_25=>GY (b':=some (bM D.str D.bool ([]:List (ByteArray×Bool)))) 0 rfl rfl (ae (.map n_25) wz rfl (aj (af (af (aa (ae (vL Alert.enc l_1) wz rfl (bW FP rfl wz (ae (vI 0) wz rfl (aj ?_)))))))))))))
   obtain ⟨o_34,hj_35,hF⟩:=bind_some hF
   obtain ⟨hn_30,hj_35⟩:=aV hj_35
   refine aD (β:=((List (ByteArray×Bool)))) (λ(s_31:(List (ByteArray×Bool)))=>([]:SL_)) (λ(s_31:(List (ByteArray×Bool)))=>([(n_25,some (bM D.str D.bool s_31))]:Hp)) (λp=>o_34 = .go p) ?_ ?_
   ·refine ay (aS (β:=Nat×(List Alert)×((List (ByteArray×Bool)))) (λp=>(λ(k_26:Nat) (l_27:List Alert) (s_31:(List (ByteArray×Bool)))=>([(6,(.map n_25)),(38,(vL Alert.enc l_1)),(39,(vI (l_1.length:Int))),(40,(vI (k_26:Int)))]:SL_)) p.1 p.2.1 p.2.2) (λp=>(λ(k_26:Nat) (l_27:List Alert) (s_31:(List (ByteArray×Bool)))=>([(n_25,some (bM D.str D.bool s_31))]:Hp)) p.1 p.2.1 p.2.2) (λp=>forR (λk x s=>gU k x s) p.2.1 p.1 p.2.2=some o_34/\(l_1).drop p.1=p.2.1) (λp=>p.2.1.length) (0,l_1,([]:List (ByteArray×Bool))) ⟨hj_35,rfl⟩ rfl (aJ rfl) ?_)
    rintro ⟨k_26,l_27,s_31⟩ ⟨hL_33,hD_29⟩
    dsimp only at hL_33 hD_29
    cases l_27 with
    | nil =>
     obtain rfl:=ah hL_33
     refine af (aa (ae (vB (decide ((k_26:Int)<(l_1.length:Int)))) wz rfl (aj ?_)))
     refine af (aB rfl (drop_nil hD_29) (aP ?_))
     exact aN (s_31) rfl rfl (aJ rfl)
    | cons x_28 l_27 =>
     obtain ⟨c_,hc_32,hL_33⟩:=bind_some hL_33
     refine af (aa (ae (vB (decide ((k_26:Int)<(l_1.length:Int)))) wz rfl (aj ?_)))
     refine af (aC rfl (bf hD_29) (ax ?_))
     unfold gU at hc_32
     refine af (ay (af (aa (dK uo rfl rfl (bG hD_29) rfl wz (bB lL qZ rfl (.d (.agg (Alert.enc x_28))) rfl wz (cK 0 (.inl rfl) z52 rfl wz (λn_36=>eD 0 il ft 1 lL rfl rfl [(vS x_28.Id),(vS x_28.Sender),(vI x_28.Kind),(vL eS x_28.Refs),(vI x_28.At),(vI x_28.Until),(vI x_28.Weight),(vL Rect.enc x_28.Areas),(vS x_28.Text)] rfl wz (aj (af (af (aa (ae (.map n_25) wz rfl (aH rO rfl 0 rfl wz (aA 0 1 il ft sz9 ag9 rfl rfl (vS x_28.Id) rfl wz (Ov (eq:=eqS) (kD:=D.str) (vD:=D.bool) (es:=s_31) (k:=x_28.Id) (z:=false) 0 0 il ft (λ_ _=>rfl) mt127 (by kernel_rfl) (by kernel_rfl) rfl rfl rfl (vB ((Kq eqS s_31 x_28.Id).getD false)) rfl wz (aj ?_))))))))))))))))
     rcases au hc_32 with⟨hc_37,hc_32⟩|⟨hc_37,hc_32⟩
     ·refine aC rfl hc_37 (af (aa (ae (vI 6) wz rfl (aj ?_))))
      obtain rfl:=ah hc_32
      obtain rfl:=ah hL_33
      obtain rfl:=ah hF
      exact aG (aU (.inr rfl) [(vI 6)] ⟨rfl,trivial⟩ rfl rfl rfl)
     ·refine aB rfl hc_37 (ax (aa (ae (.map n_25) wz rfl (aH rO rfl 0 rfl wz (aA 0 1 il ft sz9 ag9 rfl rfl (vS x_28.Id) rfl wz (Oc (eq:=eqS) (kD:=D.str) (vD:=D.bool) (es:=s_31) (k:=x_28.Id) (v:=true) 0 0 il ft (λ_ _=>rfl) mt127 (by kernel_rfl) rfl rfl rfl rfl wz (aj (aa (fu (bA hD_29 hn_30) wz rfl (ae (vI ((k_26+1:Nat):Int)) wz rfl (aj ?_)))))))))))
      obtain rfl:=ah hc_32
      exact aO (k_26+1,l_27,(ND eqS s_31 x_28.Id true)) ⟨hL_33,aR hD_29⟩ (ls_ _) rfl (aJ rfl)
   ·rintro s_31 ho_ sl_ H_ hp_ hq_
    subst ho_
    refine aL _ hp_ hq_ (af (aa (ae (vI 0) wz rfl (aj ?_))))
    obtain rfl:=ah hF
    exact aG (aU (.inr rfl) [(vI 0)] ⟨rfl,trivial⟩ rfl rfl rfl)
theorem zf {l_1:(List Post)} {r:Int} (hF:kN l_1=some r) :
  FnM Tryz.prog 31 [(vL Post.enc l_1)] [] (vI r) []:=by
 refine FnM.of_wH ⟨Tryz.prog,44,[],[]⟩ rfl Tryz.func31 rfl rfl (lb_ rfl) (by kernel_rfl) ?_
 unfold kN at hF
 refine af (aa (ae (vI 0) wz rfl (aj (af (af (aa (ae (vL Post.enc l_1) wz rfl (bW un63 rfl wz (ae (vB (decide ((l_1.length:Int)>500))) wz rfl (aj ?_))))))))))
 rcases au hF with⟨hc_2,hF⟩|⟨hc_2,hF⟩
 ·refine aC rfl hc_2 (af (aa (ae (vI 2) wz rfl (aj ?_))))
  obtain rfl:=ah hF
  exact aG (aU (.inr rfl) [(vI 2)] ⟨rfl,trivial⟩ rfl rfl rfl)
 ·refine aB rfl hc_2 (ax (af (af (aa (ae (vL Post.enc l_1) wz rfl (bW un63 rfl wz (ae (vI 0) wz rfl (aj ?_))))))))
  obtain ⟨o_11,hj_12,hF⟩:=bind_some hF
  obtain ⟨hn_7,hj_12⟩:=aV hj_12
  refine aD (β:=(Unit)) (λ(s_8:Unit)=>([]:SL_)) (λ(s_8:Unit)=>([]:Hp)) (λp=>o_11 = .go p) ?_ ?_
  ·refine ay (aS (β:=Nat×(List Post)×(Unit)) (λp=>(λ(k_3:Nat) (l_4:List Post) (s_8:Unit)=>([(0,(vL Post.enc l_1)),(8,(vL Post.enc l_1)),(9,(vI (l_1.length:Int))),(10,(vI (k_3:Int)))]:SL_)) p.1 p.2.1 p.2.2) (λp=>(λ(k_3:Nat) (l_4:List Post) (s_8:Unit)=>([]:Hp)) p.1 p.2.1 p.2.2) (λp=>forR (λk x s=>jC l_1 k x s) p.2.1 p.1 p.2.2=some o_11/\(l_1).drop p.1=p.2.1) (λp=>p.2.1.length) (0,l_1,()) ⟨hj_12,rfl⟩ rfl (aJ rfl) ?_)
   rintro ⟨k_3,l_4,s_8⟩ ⟨hL_10,hD_6⟩
   dsimp only at hL_10 hD_6
   cases l_4 with
   | nil =>
    obtain rfl:=ah hL_10
    refine af (aa (ae (vB (decide ((k_3:Int)<(l_1.length:Int)))) wz rfl (aj ?_)))
    refine af (aB rfl (drop_nil hD_6) (aP ?_))
    exact aN (s_8) rfl rfl (aJ rfl)
   | cons x_5 l_4 =>
    obtain ⟨c_,hc_9,hL_10⟩:=bind_some hL_10
    refine af (aa (ae (vB (decide ((k_3:Int)<(l_1.length:Int)))) wz rfl (aj ?_)))
    refine af (aC rfl (bf hD_6) (ax ?_))
    unfold jC at hc_9
    refine af (ay (af (aa (ae (vI (k_3:Int)) wz rfl (dK es63 rfl rfl (bG hD_6) rfl wz (bB Kb Nu rfl (.d (.agg (Post.enc x_5))) rfl wz (cK 0 (.inl rfl) z30 rfl wz (λn_13=>ae (vI (k_3:Int)) wz rfl (eD 0 il ft 0 Kb rfl rfl [(vS x_5.Player),(vI x_5.X),(vI x_5.Y)] rfl wz (aj (ay (af (aa (aH Lj rfl 0 rfl wz (aA 0 0 il ft sz9 ag9 rfl rfl (vS x_5.Player) rfl wz ?_)))))))))))))))
    obtain ⟨r_14,hr_15,hc_9⟩:=bind_some hc_9
    refine aI (fT hr_15) rfl BJ rfl rfl rfl rfl wz (ae (vB (!r_14)) wz rfl (ae (vB (!r_14)) wz rfl (aj ?_)))
    rcases au hc_9 with⟨hc_16,hc_9⟩|⟨hc_16,hc_9⟩
    ·refine aC rfl hc_16 (af (aa (ae (vI 5) wz rfl (aj ?_))))
     obtain rfl:=ah hc_9
     obtain rfl:=ah hL_10
     obtain rfl:=ah hF
     exact aG (aU (.inr rfl) [(vI 5)] ⟨rfl,trivial⟩ rfl rfl rfl)
    ·refine aB rfl hc_16 (af ?_)
     obtain ⟨v_17,h_18,hc_9⟩:=bind_some hc_9
     refine aD (β:=Unit) (λ_=>([(0,(vL Post.enc l_1)),(3,(vI (k_3:Int))),(4,(.ref n_13 0 0)),(8,(vL Post.enc l_1)),(9,(vI (l_1.length:Int))),(10,(vI (k_3:Int))),(20,(vB v_17))]:SL_)) (λ_=>([(n_13,some (.cells 3 [(vS x_5.Player),(vI x_5.X),(vI x_5.Y)]))]:Hp)) (λ_=>True) ?_ ?_
     ·refine aa (aH Lt rfl 1 rfl wz (aA 0 0 il ft sz3 ag3 rfl rfl (vI x_5.X) rfl wz ?_))
      obtain ⟨r_19,hr_20,h_18⟩:=bind_some h_18
      refine aI (bg hr_20) rfl rA rfl rfl rfl rfl wz ?_
      rcases au h_18 with⟨hc_21,h_18⟩|⟨hc_21,h_18⟩
      ·refine aF rfl hc_21 wz (ak wa (ak wa (ak wa (ae (vB true) wz rfl (ae (vB true) wz rfl (aj ?_))))))
       obtain rfl:=ah h_18
       exact cu
      ·refine aF rfl hc_21 wz (aH LD rfl 2 rfl wa (aA 0 0 il ft sz3 ag3 rfl rfl (vI x_5.Y) rfl wa ?_))
       obtain ⟨r_22,hr_23,h_18⟩:=bind_some h_18
       refine aI (bg hr_23) rfl rA rfl rfl rfl rfl wa (ae (vB r_22) wz rfl (ae (vB r_22) wz rfl (aj ?_)))
       obtain rfl:=ah h_18
       exact cu
     ·rintro ⟨⟩ _ sl_ H_ hp_ hq_
      refine aL _ hp_ hq_ ?_
      rcases au hc_9 with⟨hc_24,hc_9⟩|⟨hc_24,hc_9⟩
      ·refine aC rfl hc_24 (af (aa (ae (vI 1) wz rfl (aj ?_))))
       obtain rfl:=ah hc_9
       obtain rfl:=ah hL_10
       obtain rfl:=ah hF
       exact aG (aU (.inr rfl) [(vI 1)] ⟨rfl,trivial⟩ rfl rfl rfl)
      ·refine aB rfl hc_24 (af ?_)
       obtain ⟨v_25,h_26,hc_9⟩:=bind_some hc_9
       refine aD (β:=Unit) (λ_=>([(0,(vL Post.enc l_1)),(8,(vL Post.enc l_1)),(9,(vI (l_1.length:Int))),(10,(vI (k_3:Int))),(29,(vB v_25))]:SL_)) (λ_=>([(n_13,some (.cells 3 [(vS x_5.Player),(vI x_5.X),(vI x_5.Y)]))]:Hp)) (λ_=>True) ?_ ?_
       ·refine aW (ae (vI (k_3:Int)) wz rfl (ae (vB (decide ((k_3:Int)>0))) wz rfl ?_))
        rcases au h_26 with⟨hc_27,h_26⟩|⟨hc_27,h_26⟩
        ·refine aF rfl hc_27 wz (aH Lj rfl 0 rfl wa (aA 4 0 (.inr (by kernel_rfl)) (λ_ _ ag=>trivial) sz9 ag9 rfl rfl (vS x_5.Player) rfl wa (ae (vL Post.enc l_1) wa rfl (ae (vI (k_3:Int)) wa rfl (ae (vI (w64 ((k_3:Int)-1))) wa rfl ?_)))))
         obtain ⟨y_28,hy_29,h_26⟩:=bind_some h_26
         refine dK es63 rfl rfl hy_29 rfl wa (og Lj rfl [.str y_28.Player,.int .i64 y_28.X,.int .i64 y_28.Y] rfl rfl wa (bB sz9 ag9 rfl (vS y_28.Player) rfl wa (ae (vB (sLe x_5.Player y_28.Player)) wa rfl (ae (vB (sLe x_5.Player y_28.Player)) wz rfl (ae (vB (sLe x_5.Player y_28.Player)) wz rfl (aj ?_))))))
         obtain rfl:=ah h_26
         exact cu
        ·refine aF rfl hc_27 wz (ak wa (ak wa (ak wa (ak wa (ak wa (ak wa (ak wa (ak wa (ak wa (ae (vB false) wz rfl (ae (vB false) wz rfl (aj ?_))))))))))))
         obtain rfl:=ah h_26
         exact cu
       ·rintro ⟨⟩ _ sl_ H_ hp_ hq_
        refine aL _ hp_ hq_ ?_
        rcases au hc_9 with⟨hc_30,hc_9⟩|⟨hc_30,hc_9⟩
        ·refine aC rfl hc_30 (af (aa (ae (vI 7) wz rfl (aj ?_))))
         obtain rfl:=ah hc_9
         obtain rfl:=ah hL_10
         obtain rfl:=ah hF
         exact aG (aU (.inr rfl) [(vI 7)] ⟨rfl,trivial⟩ rfl rfl rfl)
        ·refine aB rfl hc_30 (ax (aa (fu (bA hD_6 hn_7) wz rfl (ae (vI ((k_3+1:Nat):Int)) wz rfl (aj ?_)))))
         obtain rfl:=ah hc_9
         exact aO (k_3+1,l_4,()) ⟨hL_10,aR hD_6⟩ (ls_ _) rfl (aJ rfl)
  ·rintro s_8 ho_ sl_ H_ hp_ hq_
   subst ho_
   refine aL _ hp_ hq_ (af (aa (ae (vI 0) wz rfl (aj ?_))))
   obtain rfl:=ah hF
   exact aG (aU (.inr rfl) [(vI 0)] ⟨rfl,trivial⟩ rfl rfl rfl)
theorem Ad {l_1:(List Alert)} {posts_2:(List Post)} {r:Int} (hF:lZ l_1 posts_2=some r) :
  FnM Tryz.prog 18 [(vL Alert.enc l_1),(vL Post.enc posts_2)] [] (vI r) []:=by
 refine FnM.of_wH ⟨Tryz.prog,13,[],[]⟩ rfl Tryz.func18 rfl rfl (lb_ rfl) (by kernel_rfl) ?_
 unfold lZ at hF
 refine af (aa (ae (vI 0) wz rfl (aj (af (af (aa (ae (vL Alert.enc l_1) wz rfl ?_)))))))
 obtain ⟨r_3,hr_4,hF⟩:=bind_some hF
 refine aI (xK hr_4) rfl hb30 rfl rfl rfl rfl wz (ae (vI r_3) wz rfl (aj (af (aa (ae (vI r_3) wz rfl (ae (vB (r_3 != 0)) wz rfl (aj ?_)))))))
 rcases au hF with⟨hc_5,hF⟩|⟨hc_5,hF⟩
 ·refine aC rfl hc_5 (af (aa (ae (vI r_3) wz rfl (ae (vI r_3) wz rfl (aj ?_)))))
  obtain rfl:=ah hF
  exact aG (aU (.inr rfl) [(vI r_3)] ⟨rfl,trivial⟩ rfl rfl rfl)
 ·refine aB rfl hc_5 (ax (af (aa (ae (vL Post.enc posts_2) wz rfl ?_))))
  obtain ⟨r_6,hr_7,hF⟩:=bind_some hF
  refine aI (zf hr_7) rfl hb31 rfl rfl rfl rfl wz (ae (vI r_6) wz rfl (aj ?_))
  obtain rfl:=ah hF
  exact aG (aU (.inr rfl) [(vI r_6)] ⟨rfl,trivial⟩ rfl rfl rfl)
theorem Dr {o_1:Alert} {p_2:ByteArray} {p_3:Alert} {r:Bool} (hF:lJ o_1 p_2 p_3=some r) :
  FnM Tryz.prog 103 [(.d (.agg (Alert.enc o_1))),(.ref (av 0) 0 0),(.ref (av 1) 0 0)] [(.cells 1 [(vS p_2)]),(.cells 9 [(vS p_3.Id),(vS p_3.Sender),(vI p_3.Kind),(vL eS p_3.Refs),(vI p_3.At),(vI p_3.Until),(vI p_3.Weight),(vL Rect.enc p_3.Areas),(vS p_3.Text)])] (vB r) [some (.cells 1 [(vS p_2)]),some (.cells 9 [(vS p_3.Id),(vS p_3.Sender),(vI p_3.Kind),(vL eS p_3.Refs),(vI p_3.At),(vI p_3.Until),(vI p_3.Weight),(vL Rect.enc p_3.Areas),(vS p_3.Text)])]:=by
 refine FnM.of_wH ⟨Tryz.prog,22,[],[]⟩ rfl Tryz.func103 rfl rfl (lb_ rfl) (by kernel_rfl) ?_
 unfold lJ at hF
 refine af (aa (dL 0 (.inl rfl) [(vS o_1.Id),(vS o_1.Sender),(vI o_1.Kind),(vL eS o_1.Refs),(vI o_1.At),(vI o_1.Until),(vI o_1.Weight),(vL Rect.enc o_1.Areas),(vS o_1.Text)] rfl rfl wz (λn_4=>ae (vB false) wz rfl (aj (af ?_)))))
 obtain ⟨v_5,h_6,hF⟩:=bind_some hF
 refine aD (β:=Unit) (λ_=>([(4,(vB v_5))]:SL_)) (λ_=>([((av 0),some (.cells 1 [(vS p_2)])),((av 1),some (.cells 9 [(vS p_3.Id),(vS p_3.Sender),(vI p_3.Kind),(vL eS p_3.Refs),(vI p_3.At),(vI p_3.Until),(vI p_3.Weight),(vL Rect.enc p_3.Areas),(vS p_3.Text)])),(n_4,some (.cells 9 [(vS o_1.Id),(vS o_1.Sender),(vI o_1.Kind),(vL eS o_1.Refs),(vI o_1.At),(vI o_1.Until),(vI o_1.Weight),(vL Rect.enc o_1.Areas),(vS o_1.Text)]))]:Hp)) (λ_=>True) ?_ ?_
 ·refine aa (aH rO rfl 0 rfl wz (aA 0 2 il ft sz9 ag9 rfl rfl (vS o_1.Id) rfl wz (aA 0 0 il ft sz9 ag9 rfl rfl (vS p_2) rfl wz (ae (vB (sEq o_1.Id p_2)) wz rfl ?_))))
  rcases au h_6 with⟨hc_7,h_6⟩|⟨hc_7,h_6⟩
  ·refine aF rfl hc_7 wz (aH KF rfl 1 rfl wa (aA 0 2 il ft sz9 ag9 rfl rfl (vS o_1.Sender) rfl wa (aH KF rfl 1 rfl wa (aA 0 1 il ft sz9 ag9 rfl rfl (vS p_3.Sender) rfl wa (ae (vB (sEq o_1.Sender p_3.Sender)) wa rfl (ae (vB (sEq o_1.Sender p_3.Sender)) wz rfl ?_))))))
   rcases au h_6 with⟨hc_8,h_6⟩|⟨hc_8,h_6⟩
   ·refine aF rfl hc_8 wz (aA 0 2 il ft lL qZ rfl rfl (.d (.agg (Alert.enc o_1))) rfl wa (aA 0 1 il ft lL qZ rfl rfl (.d (.agg (Alert.enc p_3))) rfl wa ?_))
    obtain ⟨r_9,hr_10,h_6⟩:=bind_some h_6
    refine aI (vk hr_10) rfl hb68 rfl rfl rfl rfl wa (ae (vB (decide (r_9<0))) wa rfl (ae (vB (decide (r_9<0))) wz rfl (ae (vB (decide (r_9<0))) wz rfl (aj ?_))))
    obtain rfl:=ah h_6
    exact cu
   ·refine aF rfl hc_8 wz (ak wa (ak wa (ak wa (ak wa (ae (vB false) wz rfl (ae (vB false) wz rfl (aj ?_)))))))
    obtain rfl:=ah h_6
    exact cu
  ·refine aF rfl hc_7 wz (ak wa (ak wa (ak wa (ak wa (ak wa (ae (vB false) wz rfl (ae (vB false) wz rfl (ak wa (ak wa (ak wa (ak wa (ae (vB false) wz rfl (ae (vB false) wz rfl (aj ?_))))))))))))))
   obtain rfl:=ah h_6
   exact cu
 ·rintro ⟨⟩ _ sl_ H_ hp_ hq_
  refine aL _ hp_ hq_ ?_
  obtain rfl:=ah hF
  exact aG (wE (.inr rfl) [(vB v_5)] _ [0,1] [av 0,av 1] ⟨rfl,trivial⟩ (.cons (jF rfl rfl) (.nil)) (by kernel_rfl) ⟨(by kernel_rfl),⟨(by kernel_rfl),trivial⟩⟩ (by decide) (by kernel_rfl))
theorem mP {s_1:(List Alert)} {f_2:Alert->Option Bool} {r:Int} {gid:FuncId} {caps:List V} {Sin:List Box} (hfn:∀x0 r,f_2 x0=some r->FnM Tryz.prog gid ([(.d (.agg (Alert.enc x0)))]++caps) Sin (vB r) (Sin.map some)) (hbF:aK Tryz.prog gid=true) (hcapF:caps.flatMap frz=[]/\caps.map co0=caps) (hokF:okL Sin.length caps=true) (hsF:∀b∈Sin,b.ok Sin.length=true) (hmF:∀b∈Sin,b.mut=true) (hF:eG s_1 f_2=some r) :
  FnM Tryz.prog 102 [(vL Alert.enc s_1),(.fn gid caps)] Sin (vI r) (Sin.map some):=by
 refine FnM.of_wH ⟨Tryz.prog,19,[],[]⟩ rfl Tryz.func102 rfl rfl (lb_ rfl) (by kernel_rfl) ?_
 unfold eG at hF
 refine af (aa (ae (vI 0) wz rfl (aj (af (af (aa (ae (vL Alert.enc s_1) wz rfl (bW FP rfl wz (ae (vI 0) wz rfl (aj ?_))))))))))
 obtain ⟨o_11,hj_12,hF⟩:=bind_some hF
 obtain ⟨hn_7,hj_12⟩:=aV hj_12
 refine aD (β:=(Unit)) (λ(s_8:Unit)=>([]:SL_)) (λ(s_8:Unit)=>(nT 0 Sin)) (λp=>o_11 = .go p) ?_ ?_
 ·refine ay (aS (β:=Nat×(List Alert)×(Unit)) (λp=>(λ(k_3:Nat) (l_4:List Alert) (s_8:Unit)=>([(0,(vL Alert.enc s_1)),(1,(.fn gid caps)),(7,(vI (s_1.length:Int))),(8,(vI (k_3:Int)))]:SL_)) p.1 p.2.1 p.2.2) (λp=>(λ(k_3:Nat) (l_4:List Alert) (s_8:Unit)=>(nT 0 Sin)) p.1 p.2.1 p.2.2) (λp=>forR (λk x s=>dN f_2 k x s) p.2.1 p.1 p.2.2=some o_11/\(s_1).drop p.1=p.2.1) (λp=>p.2.1.length) (0,s_1,()) ⟨hj_12,rfl⟩ rfl (pG _) ?_)
  rintro ⟨k_3,l_4,s_8⟩ ⟨hL_10,hD_6⟩
  dsimp only at hL_10 hD_6
  cases l_4 with
  | nil =>
   obtain rfl:=ah hL_10
   refine af (aa (ae (vB (decide ((k_3:Int)<(s_1.length:Int)))) wz rfl (aj ?_)))
   refine af (aB rfl (drop_nil hD_6) (aP ?_))
   exact aN (s_8) rfl rfl (pG _)
  | cons x_5 l_4 =>
   obtain ⟨c_,hc_9,hL_10⟩:=bind_some hL_10
   refine af (aa (ae (vB (decide ((k_3:Int)<(s_1.length:Int)))) wz rfl (aj ?_)))
   refine af (aC rfl (bf hD_6) (ax ?_))
   unfold dN at hc_9
   refine af (ay (af (aa (ae (vI (k_3:Int)) wz rfl (ae (vI (k_3:Int)) wz rfl (aj (af (aa (ae (.fn gid caps) wz rfl (ae (vL Alert.enc s_1) wz rfl (ae (vI (k_3:Int)) wz rfl (dK uo rfl rfl (bG hD_6) rfl wz (bB lL qZ rfl (.d (.agg (Alert.enc x_5))) rfl wz ?_)))))))))))))
   obtain ⟨r_13,hr_14,hc_9⟩:=bind_some hc_9
   refine DN (hfn _ _ hr_14) rfl hbF rfl rfl hcapF hokF hsF hmF rfl wz rfl (aj ?_)
   rcases au hc_9 with⟨hc_15,hc_9⟩|⟨hc_15,hc_9⟩
   ·refine aC rfl hc_15 (af (aa (ae (vI (k_3:Int)) wz rfl (ae (vI (k_3:Int)) wz rfl (aj ?_)))))
    obtain rfl:=ah hc_9
    obtain rfl:=ah hL_10
    obtain rfl:=ah hF
    exact aG (K3 hsF (.inr rfl) [(vI (k_3:Int))] ⟨rfl,trivial⟩ rfl rfl rfl)
   ·refine aB rfl hc_15 (ax (aa (fu (bA hD_6 hn_7) wz rfl (ae (vI ((k_3+1:Nat):Int)) wz rfl (aj ?_)))))
    obtain rfl:=ah hc_9
    exact aO (k_3+1,l_4,()) ⟨hL_10,aR hD_6⟩ (ls_ _) rfl (pG _)
 ·rintro s_8 ho_ sl_ H_ hp_ hq_
  subst ho_
  refine aL _ hp_ hq_ (af (aa (ae (vI (-1)) wz rfl (aj ?_))))
  obtain rfl:=ah hF
  exact aG (K3 hsF (.inr rfl) [(vI (-1))] ⟨rfl,trivial⟩ rfl rfl rfl)
theorem F7 {l_1:(List Alert)} {a_2:Alert} {ref_3:ByteArray} {r:Int} (hF:qC l_1 a_2 ref_3=some r) :
  FnM Tryz.prog 70 [(vL Alert.enc l_1),(.d (.agg (Alert.enc a_2))),(vS ref_3)] [] (vI r) []:=by
 refine FnM.of_wH ⟨Tryz.prog,10,[],[]⟩ rfl Tryz.func70 rfl rfl (lb_ rfl) (by kernel_rfl) ?_
 unfold qC at hF
 refine af (aa (dL 0 (.inl rfl) [(vS a_2.Id),(vS a_2.Sender),(vI a_2.Kind),(vL eS a_2.Refs),(vI a_2.At),(vI a_2.Until),(vI a_2.Weight),(vL Rect.enc a_2.Areas),(vS a_2.Text)] rfl rfl wz (λn_4=>dL 0 (.inl rfl) [(vS ref_3)] rfl rfl wz (λn_5=>ae (vI 0) wz rfl (aj (af (aa (ae (vL Alert.enc l_1) wz rfl (ae (.fn 103 [(.ref n_5 0 0),(.ref n_4 0 0)]) wz rfl ?_)))))))))
 obtain ⟨r_6,hr_7,hF⟩:=bind_some hF
 refine bS 0 [1,0] il ft (mP (gid:=103) (caps:=[.ref (av 0) 0 0,.ref (av 1) 0 0]) (Sin:=[(.cells 1 [(vS ref_3)]),(.cells 9 [(vS a_2.Id),(vS a_2.Sender),(vI a_2.Kind),(vL eS a_2.Refs),(vI a_2.At),(vI a_2.Until),(vI a_2.Weight),(vL Rect.enc a_2.Areas),(vS a_2.Text)])]) (λ_ _ h_=>Dr h_) hb103 ⟨rfl,rfl⟩ (by kernel_rfl) (KG (by kernel_rfl)) (IA (by kernel_rfl)) hr_7) rfl hb102 rfl (by kernel_rfl) (by kernel_rfl) (by kernel_rfl) (by kernel_rfl) (by kernel_rfl) (by kernel_rfl) (by kernel_rfl) (by decide) (by kernel_rfl) wz (vI r_6) (by kernel_rfl) ([(n_4,some (.cells 9 [(vS a_2.Id),(vS a_2.Sender),(vI a_2.Kind),(vL eS a_2.Refs),(vI a_2.At),(vI a_2.Until),(vI a_2.Weight),(vL Rect.enc a_2.Areas),(vS a_2.Text)])),(n_5,some (.cells 1 [(vS ref_3)]))]:Hp) (by kernel_rfl) (ae (vI r_6) wz rfl (aj ?_))
 obtain rfl:=ah hF
 exact aG (aU (.inr rfl) [(vI r_6)] ⟨rfl,trivial⟩ rfl rfl rfl)
theorem FY {l_1:(List Alert)} {r:(List Int)} (hF:uj l_1=some r) :
  FnM Tryz.prog 32 [(vL Alert.enc l_1)] [] (vL eI r) []:=by
 refine FnM.of_wH ⟨Tryz.prog,55,[],[]⟩ rfl Tryz.func32 rfl rfl (lb_ rfl) (by kernel_rfl) ?_
 unfold uj at hF
 refine af (aa (ae .nil wz rfl (aj (af (aa (ae .nil wz rfl (aj (af (af (aa (ae (vL Alert.enc l_1) wz rfl (bW FP rfl wz (ae (vI 0) wz rfl (aj (kg (λn_8 => ?_))))))))))))))))
 obtain ⟨o_13,hj_14,hF⟩:=bind_some hF
 obtain ⟨hn_6,hj_14⟩:=aV hj_14
 refine aD (β:=((List Int))×Nm) (λp=>(λ(s_7:List Int) (n_10:Nm)=>([(0,(vL Alert.enc l_1)),(3,(gV n_10 1 s_7))]:SL_)) p.1 p.2) (λp=>(λ(s_7:List Int) (n_10:Nm)=>([(n_10,gB 1 eI s_7)]:Hp)) p.1 p.2) (λp=>o_13 = .go p.1) ?_ ?_
 ·refine ay (aS (β:=Nat×(List Alert)×((List Int))×Nm) (λp=>(λ(k_2:Nat) (l_3:List Alert) (s_7:List Int) (n_10:Nm)=>([(0,(vL Alert.enc l_1)),(3,(gV n_10 1 s_7)),(11,(vL Alert.enc l_1)),(12,(vI (l_1.length:Int))),(13,(vI (k_2:Int)))]:SL_)) p.1 p.2.1 p.2.2.1 p.2.2.2) (λp=>(λ(k_2:Nat) (l_3:List Alert) (s_7:List Int) (n_10:Nm)=>([(n_10,gB 1 eI s_7)]:Hp)) p.1 p.2.1 p.2.2.1 p.2.2.2) (λp=>forR (λk x s=>oF k x s) p.2.1 p.1 p.2.2.1=some o_13/\(l_1).drop p.1=p.2.1) (λp=>p.2.1.length) (0,l_1,([]:List Int),n_8) ⟨hj_14,rfl⟩ rfl (aJ rfl) ?_)
  rintro ⟨k_2,l_3,s_7,n_10⟩ ⟨hL_12,hD_5⟩
  dsimp only at hL_12 hD_5
  cases l_3 with
  | nil =>
   obtain rfl:=ah hL_12
   refine af (aa (ae (vB (decide ((k_2:Int)<(l_1.length:Int)))) wz rfl (aj ?_)))
   refine af (aB rfl (drop_nil hD_5) (aP ?_))
   exact aN (s_7,n_10) rfl rfl (aJ rfl)
  | cons x_4 l_3 =>
   obtain ⟨c_,hc_11,hL_12⟩:=bind_some hL_12
   refine af (aa (ae (vB (decide ((k_2:Int)<(l_1.length:Int)))) wz rfl (aj ?_)))
   refine af (aC rfl (bf hD_5) (ax ?_))
   unfold oF at hc_11
   refine af (ay (af (aa (dK uo rfl rfl (bG hD_5) rfl wz (bB lL qZ rfl (.d (.agg (Alert.enc x_4))) rfl wz (cK 0 (.inl rfl) z52 rfl wz (λn_15=>eD 0 il ft 1 lL rfl rfl [(vS x_4.Id),(vS x_4.Sender),(vI x_4.Kind),(vL eS x_4.Refs),(vI x_4.At),(vI x_4.Until),(vI x_4.Weight),(vL Rect.enc x_4.Areas),(vS x_4.Text)] rfl wz (aj (aa (ae (gV n_10 1 s_7) wz rfl (aH Lv rfl 5 rfl wz (aA 0 1 il ft sz3 ag3 rfl rfl (vI x_4.Until) rfl wz (dW (([x_4.Until]:List Int).map eI) jf uh rfl rfl rfl rfl rfl wz ?_)))))))))))))
   obtain ⟨a_16,hz_17,hc_11⟩:=bind_some hc_11
   refine jS 0 il ft (i:=0) DY DY sz3 z3 rfl (by decide) by3 (by decide) (λ_=>rfl) rfl rfl rfl hz_17 wz (λn_18=>ae (gV n_18 1 a_16) wz rfl (aj (aa (fu (bA hD_5 hn_6) wz rfl (ae (vI ((k_2+1:Nat):Int)) wz rfl (aj ?_))))))
   obtain rfl:=ah hc_11
   exact aO (k_2+1,l_3,a_16,n_18) ⟨hL_12,aR hD_5⟩ (ls_ _) rfl (aJ rfl)
 ·rintro ⟨s_7,n_10⟩ ho_ sl_ H_ hp_ hq_
  subst ho_
  refine aL _ hp_ hq_ (af (af (aa (ae (vL Alert.enc l_1) wz rfl (bW FP rfl wz (ae (vI 0) wz rfl (aj ?_)))))))
  obtain ⟨o_27,hj_28,hF⟩:=bind_some hF
  obtain ⟨hn_23,hj_28⟩:=aV hj_28
  refine aD (β:=((List Int))) (λ(s_24:List Int)=>([(3,(gV n_10 1 s_24))]:SL_)) (λ(s_24:List Int)=>([(n_10,gB 1 eI s_24)]:Hp)) (λp=>o_27 = .go p) ?_ ?_
  ·refine ay (aS (β:=Nat×(List Alert)×((List Int))) (λp=>(λ(k_19:Nat) (l_20:List Alert) (s_24:List Int)=>([(0,(vL Alert.enc l_1)),(3,(gV n_10 1 s_24)),(23,(vL Alert.enc l_1)),(24,(vI (l_1.length:Int))),(25,(vI (k_19:Int)))]:SL_)) p.1 p.2.1 p.2.2) (λp=>(λ(k_19:Nat) (l_20:List Alert) (s_24:List Int)=>([(n_10,gB 1 eI s_24)]:Hp)) p.1 p.2.1 p.2.2) (λp=>forR (λk x s=>oC l_1 k x s) p.2.1 p.1 p.2.2=some o_27/\(l_1).drop p.1=p.2.1) (λp=>p.2.1.length) (0,l_1,s_7) ⟨hj_28,rfl⟩ rfl (aJ rfl) ?_)
   rintro ⟨k_19,l_20,s_24⟩ ⟨hL_26,hD_22⟩
   dsimp only at hL_26 hD_22
   cases l_20 with
   | nil =>
    obtain rfl:=ah hL_26
    refine af (aa (ae (vB (decide ((k_19:Int)<(l_1.length:Int)))) wz rfl (aj ?_)))
    refine af (aB rfl (drop_nil hD_22) (aP ?_))
    exact aN (s_24) rfl rfl (aJ rfl)
   | cons x_21 l_20 =>
    obtain ⟨c_,hc_25,hL_26⟩:=bind_some hL_26
    refine af (aa (ae (vB (decide ((k_19:Int)<(l_1.length:Int)))) wz rfl (aj ?_)))
    refine af (aC rfl (bf hD_22) (ax ?_))
    unfold oC at hc_25
    refine af (ay (af (aa (dK uo rfl rfl (bG hD_22) rfl wz (bB lL qZ rfl (.d (.agg (Alert.enc x_21))) rfl wz (cK 0 (.inl rfl) z52 rfl wz (λn_29=>eD 0 il ft 1 lL rfl rfl [(vS x_21.Id),(vS x_21.Sender),(vI x_21.Kind),(vL eS x_21.Refs),(vI x_21.At),(vI x_21.Until),(vI x_21.Weight),(vL Rect.enc x_21.Areas),(vS x_21.Text)] rfl wz (aj (af (aa (aH wy rfl 3 rfl wz (aA 0 1 il ft xU A8 rfl rfl (vL eS x_21.Refs) rfl wz (bW yY rfl wz (ae (vI 0) wz rfl (aj ?_)))))))))))))))
    obtain ⟨o_38,hj_39,hc_25⟩:=bind_some hc_25
    obtain ⟨hn_34,hj_39⟩:=aV hj_39
    refine aD (β:=((List Int))) (λ(s_35:List Int)=>([(0,(vL Alert.enc l_1)),(3,(gV n_10 1 s_35)),(23,(vL Alert.enc l_1)),(24,(vI (l_1.length:Int))),(25,(vI (k_19:Int)))]:SL_)) (λ(s_35:List Int)=>([(n_10,gB 1 eI s_35),(n_29,some (.cells 9 [(vS x_21.Id),(vS x_21.Sender),(vI x_21.Kind),(vL eS x_21.Refs),(vI x_21.At),(vI x_21.Until),(vI x_21.Weight),(vL Rect.enc x_21.Areas),(vS x_21.Text)]))]:Hp)) (λp=>o_38 = .go p) ?_ ?_
    ·refine ay (aS (β:=Nat×(List ByteArray)×((List Int))) (λp=>(λ(k_30:Nat) (l_31:List ByteArray) (s_35:List Int)=>([(0,(vL Alert.enc l_1)),(3,(gV n_10 1 s_35)),(7,(.ref n_29 0 0)),(23,(vL Alert.enc l_1)),(24,(vI (l_1.length:Int))),(25,(vI (k_19:Int))),(30,(vL eS x_21.Refs)),(31,(vI (x_21.Refs.length:Int))),(32,(vI (k_30:Int)))]:SL_)) p.1 p.2.1 p.2.2) (λp=>(λ(k_30:Nat) (l_31:List ByteArray) (s_35:List Int)=>([(n_10,gB 1 eI s_35),(n_29,some (.cells 9 [(vS x_21.Id),(vS x_21.Sender),(vI x_21.Kind),(vL eS x_21.Refs),(vI x_21.At),(vI x_21.Until),(vI x_21.Weight),(vL Rect.enc x_21.Areas),(vS x_21.Text)]))]:Hp)) p.1 p.2.1 p.2.2) (λp=>forR (λk x s=>mo l_1 x_21 k x s) p.2.1 p.1 p.2.2=some o_38/\(x_21.Refs).drop p.1=p.2.1) (λp=>p.2.1.length) (0,x_21.Refs,s_24) ⟨hj_39,rfl⟩ rfl (aJ rfl) ?_)
     rintro ⟨k_30,l_31,s_35⟩ ⟨hL_37,hD_33⟩
     dsimp only at hL_37 hD_33
     cases l_31 with
     | nil =>
      obtain rfl:=ah hL_37
      refine af (aa (ae (vB (decide ((k_30:Int)<(x_21.Refs.length:Int)))) wz rfl (aj ?_)))
      refine af (aB rfl (drop_nil hD_33) (aP ?_))
      exact aN (s_35) rfl rfl (aJ rfl)
     | cons x_32 l_31 =>
      obtain ⟨c_,hc_36,hL_37⟩:=bind_some hL_37
      refine af (aa (ae (vB (decide ((k_30:Int)<(x_21.Refs.length:Int)))) wz rfl (aj ?_)))
      refine af (aC rfl (bf hD_33) (ax ?_))
      unfold mo at hc_36
      refine af (ay (af (aa (dK qy rfl rfl (bG hD_33) rfl wz (bB sz9 ag9 rfl (vS x_32) rfl wz (ae (vS x_32) wz rfl (aj (af (aa (ae (vL Alert.enc l_1) wz rfl (aA 0 1 il ft lL qZ rfl rfl (.d (.agg (Alert.enc x_21))) rfl wz (ae (vS x_32) wz rfl ?_))))))))))))
      obtain ⟨r_40,hr_41,hc_36⟩:=bind_some hc_36
      refine aI (F7 hr_41) rfl hb70 rfl rfl rfl rfl wz (ae (vI r_40) wz rfl (aj (af (aa (ae (vI r_40) wz rfl (ae (vB (decide (r_40>=0))) wz rfl (aj ?_)))))))
      obtain ⟨v_42,h_43,hc_36⟩:=bind_some hc_36
      refine aD (β:=Unit) (λ_=>([(0,(vL Alert.enc l_1)),(3,(gV n_10 1 v_42)),(7,(.ref n_29 0 0)),(23,(vL Alert.enc l_1)),(24,(vI (l_1.length:Int))),(25,(vI (k_19:Int))),(30,(vL eS x_21.Refs)),(31,(vI (x_21.Refs.length:Int))),(32,(vI (k_30:Int)))]:SL_)) (λ_=>([(n_10,gB 1 eI v_42),(n_29,some (.cells 9 [(vS x_21.Id),(vS x_21.Sender),(vI x_21.Kind),(vL eS x_21.Refs),(vI x_21.At),(vI x_21.Until),(vI x_21.Weight),(vL Rect.enc x_21.Areas),(vS x_21.Text)]))]:Hp)) (λ_=>True) ?_ ?_
      ·rcases au h_43 with⟨hc_44,h_43⟩|⟨hc_44,h_43⟩
       ·refine aC rfl hc_44 (aW (ae (gV n_10 1 s_35) wz rfl (ae (vI r_40) wz rfl (ae (gV n_10 1 s_35) wz rfl (ae (vI r_40) wz rfl ?_)))))
        obtain ⟨_,hi_45,h_43⟩:=bind_some h_43
        refine qH jf rfl rfl (ig hi_45) (eX hi_45) wz ?_
        obtain ⟨e_46,hy_47,h_43⟩:=bind_some h_43
        refine jr 5 0 (.inr (by kernel_rfl)) (λ_ _ ag=>trivial) sz3 ag3 rfl rfl hy_47 (vI e_46) rfl wz (aH oL rfl 4 rfl wz (aA 7 1 (.inr (by kernel_rfl)) (λ_ _ ag=>⟨.inl ⟨rfl,rfl⟩,trivial⟩) sz3 ag3 rfl rfl (vI x_21.At) rfl wz (ma (vI (lD e_46 x_21.At)) rfl (.inl rfl) wz ?_)))
        obtain ⟨_,hi_48,h_43⟩:=bind_some h_43
        refine qH jf rfl rfl (ig hi_48) (eX hi_48) wz ?_
        obtain ⟨e_49,hy_50,h_43⟩:=bind_some h_43
        refine sU 10 (.inr (by kernel_rfl)) (λ_ _ ag=>⟨.inr (.inr (by kernel_rfl)),⟨.inr (.inr (by kernel_rfl)),trivial⟩⟩) 0 sz3 rfl rfl hy_50 (lD e_46 x_21.At) rfl wz (dn (v':=(gV n_10 1 (s_35.set (0+(r_40).toNat) (lD e_46 x_21.At)))) 3 rfl (iK (by simp)) (dn (v':=(gV n_10 1 (s_35.set (0+(r_40).toNat) (lD e_46 x_21.At)))) 42 rfl (iK (by simp)) (dn (v':=(gV n_10 1 (s_35.set (0+(r_40).toNat) (lD e_46 x_21.At)))) 44 rfl (iK (by simp)) (aj ?_))))
        obtain rfl:=ah h_43
        exact cu
       ·refine aB rfl hc_44 (ax ?_)
        obtain rfl:=ah h_43
        exact cu
      ·rintro ⟨⟩ _ sl_ H_ hp_ hq_
       refine aL _ hp_ hq_ (aa (fu (bA hD_33 hn_34) wz rfl (ae (vI ((k_30+1:Nat):Int)) wz rfl (aj ?_))))
       obtain rfl:=ah hc_36
       exact aO (k_30+1,l_31,v_42) ⟨hL_37,aR hD_33⟩ (ls_ _) rfl (aJ rfl)
    ·rintro s_35 ho_ sl_ H_ hp_ hq_
     subst ho_
     refine aL _ hp_ hq_ (aa (fu (bA hD_22 hn_23) wz rfl (ae (vI ((k_19+1:Nat):Int)) wz rfl (aj ?_))))
     obtain rfl:=ah hc_25
     exact aO (k_19+1,l_20,s_35) ⟨hL_26,aR hD_22⟩ (ls_ _) rfl (aJ rfl)
  ·rintro s_24 ho_ sl_ H_ hp_ hq_
   subst ho_
   refine aL _ hp_ hq_ (af (aa (ae (gV n_10 1 s_24) wz rfl (ae (gV n_10 1 s_24) wz rfl (aj (gJ 0 rfl (dJ 2 0 rfl rfl (dJ 3 0 rfl rfl (dJ 54 0 rfl rfl ?_)))))))))
   obtain rfl:=ah hF
   exact aG (aU (.inr rfl) [(vL eI s_24)] ⟨rfl,trivial⟩ rfl rfl rfl)
theorem jZ {x r:(List Int)} (hF:dC x=some r) :
  FnM Tryz.prog 33 [(dV (av 0) 1 x)] (([]:List Box)++gI 1 eI x) (.tup []) (([]:List Box).map some++gT x (gB 1 eI r)) :=
 NY Tryz.slices_Sort_int Tryz.slices_Sort_int_none hF
theorem jl {s_1:(List Int)} {r:(List Int)} (hF:bO s_1=some r) :
  FnM Tryz.prog 34 [(dV (av 0) 1 s_1)] (([]:List Box)++gI 1 eI s_1) (vL eI r) (([]:List Box).map some++gT s_1 none):=by
 refine FnM.of_wHv ⟨Tryz.prog,61,[],[]⟩ rfl Tryz.func34 rfl rfl (lb_ rfl) (by kernel_rfl) ?_
 unfold bO at hF
 refine af (aa (ae .nil wz rfl (aj (af (af (aa (ae (dV (av 0) 1 s_1) wz rfl (zQ wO rfl wz (ae (vB (decide ((s_1.length:Int)<2))) wz rfl (aj ?_))))))))))
 rcases au hF with⟨hc_2,hF⟩|⟨hc_2,hF⟩
 ·refine aC rfl hc_2 (af (aa (ae (dV (av 0) 1 s_1) wz rfl (ae (dV (av 0) 1 s_1) wz rfl (aj (gJ 0 rfl (zX 0 0 rfl rfl (zX 2 0 rfl rfl (zX 6 0 rfl rfl (zX 9 0 rfl rfl (Ik (i:=0) rfl ?_)))))))))))
  obtain rfl:=ah hF
  exact aG (y9 (bs:=([]:List Box)) (os:=([]:List Box)) (xs:=s_1) (o:=none) (.inr rfl) [(vL eI s_1)] ⟨rfl,trivial⟩ rfl rfl rfl rfl rfl (by kernel_rfl) yV rfl)
 ·refine aB rfl hc_2 (ax (af (af (aa (ae (vI 1) wz rfl (aj ?_))))))
  obtain ⟨o_11,hj_12,hF⟩:=bind_some hF
  obtain ⟨nq_52,hj_12⟩:=bR hj_12
  refine aD (β:=(Int)) (λ(s_8:Int)=>([(0,(dV (av 0) 1 s_1))]:SL_)) (λ(s_8:Int)=>([((av 0),gB 1 eI s_1)]:Hp)) (λp=>o_11 = .go p) ?_ ?_
  ·refine ay (aS (β:=Nat×(Int)) (λp=>(λ(k_3:Nat) (s_8:Int)=>([(0,(dV (av 0) 1 s_1)),(3,(vI s_8))]:SL_)) p.1 p.2) (λp=>(λ(k_3:Nat) (s_8:Int)=>([((av 0),gB 1 eI s_1)]:Hp)) p.1 p.2) (λp=>iterN (λs=>aY s_1 s) p.1 p.2=some o_11) (λp=>p.1) (nq_52,1) hj_12 rfl (aJ rfl) ?_)
   rintro ⟨k_3,s_8⟩ hL_10
   dsimp only at hL_10
   cases k_3 with
   | zero=>cases hL_10
   | succ k_3 =>
    obtain ⟨c_,hc_9,hL_10⟩:=bind_some hL_10
    unfold aY at hc_9
    refine af (af (aa (ae (vI s_8) wz rfl (ae (dV (av 0) 1 s_1) wz rfl (zQ wO rfl wz (ae (vB (decide (s_8<(s_1.length:Int)))) wz rfl (aj ?_)))))))
    rcases au hc_9 with⟨hc_13,hc_9⟩|⟨hc_13,hc_9⟩
    ·refine aC rfl hc_13 (ax (af (ay (af (aW (ae (dV (av 0) 1 s_1) wz rfl (ae (vI s_8) wz rfl ?_)))))))
     obtain ⟨_,hi_14,hc_9⟩:=bind_some hc_9
     refine jQ jf rfl rfl (ig hi_14) (eX hi_14) wz ?_
     obtain ⟨e_15,hy_16,hc_9⟩:=bind_some hc_9
     refine jr 3 0 (.inr (by kernel_rfl)) (λ_ _ ag=>trivial) sz3 ag3 rfl rfl hy_16 (vI e_15) rfl wz (ae (dV (av 0) 1 s_1) wz rfl (ae (vI s_8) wz rfl (ae (vI (w64 (s_8-1))) wz rfl ?_)))
     obtain ⟨_,hi_17,hc_9⟩:=bind_some hc_9
     refine jQ jf rfl rfl (ig hi_17) (eX hi_17) wz ?_
     obtain ⟨e_18,hy_19,hc_9⟩:=bind_some hc_9
     refine jr 8 0 (.inr (by kernel_rfl)) (λ_ _ ag=>⟨.inl ⟨rfl,rfl⟩,trivial⟩) sz3 ag3 rfl rfl hy_19 (vI e_18) rfl wz (ae (vB (e_15==e_18)) wz rfl (aj ?_))
     rcases au hc_9 with⟨hc_20,hc_9⟩|⟨hc_20,hc_9⟩
     ·refine aC rfl hc_20 (af (aa (ae (dV (av 0) 1 s_1) wz rfl (ae (vI s_8) wz rfl ?_))))
      obtain ⟨_,hn_21,hc_9⟩:=bind_some hc_9
      replace hn_21:=IY hn_21
      refine dn (v':=(vV (av 0) 1 s_1)) 0 rfl (Aw hn_21) (dn (v':=(vV (av 0) 1 s_1)) 11 rfl (Aw hn_21) (dn (v':=(vV (av 0) 1 s_1)) 16 rfl (Aw hn_21) (dn (v':=(vV (av 0) 1 s_1)) 20 rfl (Aw hn_21) (dn (v':=(vV (av 0) 1 s_1)) 26 rfl (Aw hn_21) (GY 0 rfl (Bp hn_21) ?_)))))
      obtain ⟨_,hr_22,hc_9⟩:=bind_some hc_9
      refine ED wO sz3 rfl rfl hr_22 wz (ae (.vs (av 0) 1 ((s_8).toNat) (((s_1.length:Int)).toNat-(s_8).toNat)) wz rfl (aj (af (af (aa (ae (vI 1) wz rfl (aj ?_)))))))
      obtain ⟨o_31,hj_32,hc_9⟩:=bind_some hc_9
      obtain ⟨nq_51,hj_32⟩:=bR hj_32
      refine aD (β:=((List Int)×Int×Int)) (λ(s_28:(List Int)×Int×Int)=>([(0,(vV (av 0) 1 s_28.1)),(3,(vI s_28.2.1))]:SL_)) (λ(s_28:(List Int)×Int×Int)=>([((av 0),some (bV 1 eI s_28.1))]:Hp)) (λp=>o_31 = .go p) ?_ ?_
      ·refine ay (aS (β:=Nat×((List Int)×Int×Int)) (λp=>(λ(k_23:Nat) (s_28:(List Int)×Int×Int)=>([(0,(vV (av 0) 1 s_28.1)),(3,(vI s_28.2.1)),(4,(.vs (av 0) 1 ((s_8).toNat) (((s_1.length:Int)).toNat-(s_8).toNat))),(5,(vI s_28.2.2))]:SL_)) p.1 p.2) (λp=>(λ(k_23:Nat) (s_28:(List Int)×Int×Int)=>([((av 0),some (bV 1 eI s_28.1))]:Hp)) p.1 p.2) (λp=>iterN (λs=>bU s_1 s_8 s) p.1 p.2=some o_31) (λp=>p.1) (nq_51,(s_1,s_8,1)) hj_32 rfl (aJ rfl) ?_)
       rintro ⟨k_23,s_28⟩ hL_30
       dsimp only at hL_30
       cases k_23 with
       | zero=>cases hL_30
       | succ k_23 =>
        obtain ⟨c_,hc_29,hL_30⟩:=bind_some hL_30
        unfold bU at hc_29
        refine af (af (aa (ae (vI s_28.2.2) wz rfl (ae (.vs (av 0) 1 ((s_8).toNat) (((s_1.length:Int)).toNat-(s_8).toNat)) wz rfl (h_lenp wO rfl wz (ae (vB (decide (s_28.2.2<(((((s_1.length:Int)).toNat-(s_8).toNat):Nat):Int)))) wz rfl (aj ?_)))))))
        rcases au hc_29 with⟨hc_33,hc_29⟩|⟨hc_33,hc_29⟩
        ·refine aC rfl hc_33 (ax (af (ay (af (aW (ae (.vs (av 0) 1 ((s_8).toNat) (((s_1.length:Int)).toNat-(s_8).toNat)) wz rfl (ae (vI s_28.2.2) wz rfl ?_)))))))
         obtain ⟨_,hi_34,hc_29⟩:=bind_some hc_29
         refine AL jf rfl rfl (Pz hi_34) (KU hi_34) wz ?_
         obtain ⟨e_35,hy_36,hc_29⟩:=bind_some hc_29
         refine Gg 3 0 (.inr (by kernel_rfl)) (λ_ _ ag=>trivial) sz3 ag3 rfl rfl hy_36 (vI e_35) rfl wz (ae (.vs (av 0) 1 ((s_8).toNat) (((s_1.length:Int)).toNat-(s_8).toNat)) wz rfl (ae (vI s_28.2.2) wz rfl (ae (vI (w64 (s_28.2.2-1))) wz rfl ?_)))
         obtain ⟨_,hi_37,hc_29⟩:=bind_some hc_29
         refine AL jf rfl rfl (Pz hi_37) (KU hi_37) wz ?_
         obtain ⟨e_38,hy_39,hc_29⟩:=bind_some hc_29
         refine Gg 8 0 (.inr (by kernel_rfl)) (λ_ _ ag=>⟨.inl ⟨rfl,rfl⟩,trivial⟩) sz3 ag3 rfl rfl hy_39 (vI e_38) rfl wz (ae (vB (e_35 != e_38)) wz rfl (aj ?_))
         obtain ⟨v_40,h_41,hc_29⟩:=bind_some hc_29
         refine aD (β:=Unit) (λ_=>([(0,(vV (av 0) 1 v_40.1)),(3,(vI v_40.2)),(4,(.vs (av 0) 1 ((s_8).toNat) (((s_1.length:Int)).toNat-(s_8).toNat))),(5,(vI s_28.2.2))]:SL_)) (λ_=>([((av 0),some (bV 1 eI v_40.1))]:Hp)) (λ_=>True) ?_ ?_
         ·rcases au h_41 with⟨hc_42,h_41⟩|⟨hc_42,h_41⟩
          ·refine aC rfl hc_42 (af (aa (ae (vV (av 0) 1 s_28.1) wz rfl (ae (vI s_28.2.1) wz rfl (ae (.vs (av 0) 1 ((s_8).toNat) (((s_1.length:Int)).toNat-(s_8).toNat)) wz rfl (ae (vI s_28.2.2) wz rfl ?_))))))
           obtain ⟨_,hi_43,h_41⟩:=bind_some h_41
           refine AL jf rfl rfl (Pz hi_43) (KU hi_43) wz ?_
           obtain ⟨e_44,hy_45,h_41⟩:=bind_some h_41
           refine Gg 0 0 il ft sz3 ag3 rfl rfl hy_45 (vI e_44) rfl wz ?_
           obtain ⟨_,hi_46,h_41⟩:=bind_some h_41
           refine AL jf rfl rfl (ig hi_46) (eX hi_46) wz ?_
           obtain ⟨e_47,hy_48,h_41⟩:=bind_some h_41
           refine OX 0 il ft 0 sz3 rfl rfl hy_48 e_44 rfl wz (dn (v':=(vV (av 0) 1 (s_28.1.set (0+(s_28.2.1).toNat) e_44))) 0 rfl (uR (by simp)) (dn (v':=(vV (av 0) 1 (s_28.1.set (0+(s_28.2.1).toNat) e_44))) 45 rfl (uR (by simp)) (aj (aa (ae (vI s_28.2.1) wz rfl (ae (vI (w64 (s_28.2.1+1))) wz rfl (ae (vI (w64 (s_28.2.1+1))) wz rfl (aj ?_))))))))
           obtain rfl:=ah h_41
           exact cu
          ·refine aB rfl hc_42 (ax ?_)
           obtain rfl:=ah h_41
           exact cu
         ·rintro ⟨⟩ _ sl_ H_ hp_ hq_
          refine aL _ hp_ hq_ (aa (ae (vI s_28.2.2) wz rfl (ae (vI (w64 (s_28.2.2+1))) wz rfl (ae (vI (w64 (s_28.2.2+1))) wz rfl (aj ?_)))))
          obtain rfl:=ah hc_29
          exact aO (k_23,(v_40.1,v_40.2,(w64 (s_28.2.2+1)))) hL_30 (ls_ _) rfl (aJ rfl)
        ·refine aB rfl hc_33 (aP ?_)
         obtain rfl:=ah hc_29
         obtain rfl:=ah hL_30
         exact aN ((s_28.1,s_28.2.1,s_28.2.2)) rfl rfl (aJ rfl)
      ·rintro s_28 ho_ sl_ H_ hp_ hq_
       subst ho_
       refine aL _ hp_ hq_ (af (aa (ae (vV (av 0) 1 s_28.1) wz rfl (ae (vI s_28.2.1) wz rfl ?_))))
       obtain ⟨_,hr_49,hc_9⟩:=bind_some hc_9
       refine ED wO sz3 rfl rfl hr_49 wz (Ma (i:=0) 0 il ft 0 DY sz3 z3 rfl rfl rfl (by decide) rfl (rY hr_49) rfl wz (dn (v':=(vV (av 0) 1 (s_28.1.take ((s_28.2.1).toNat)++List.replicate (((s_28.1.length:Int)).toNat-(s_28.2.1).toNat) 0++s_28.1.drop (((s_28.2.1).toNat)+(((s_28.1.length:Int)).toNat-(s_28.2.1).toNat))))) 0 rfl (uR (yQ (rY hr_49))) (dn (v':=(vV (av 0) 1 (s_28.1.take ((s_28.2.1).toNat)++List.replicate (((s_28.1.length:Int)).toNat-(s_28.2.1).toNat) 0++s_28.1.drop (((s_28.2.1).toNat)+(((s_28.1.length:Int)).toNat-(s_28.2.1).toNat))))) 54 rfl (uR (yQ (rY hr_49))) (aj (af (aa (ae (vV (av 0) 1 (s_28.1.take ((s_28.2.1).toNat)++List.replicate (((s_28.1.length:Int)).toNat-(s_28.2.1).toNat) 0++s_28.1.drop (((s_28.2.1).toNat)+(((s_28.1.length:Int)).toNat-(s_28.2.1).toNat)))) wz rfl (ae (vI s_28.2.1) wz rfl ?_))))))))
       obtain ⟨_,hr_50,hc_9⟩:=bind_some hc_9
       refine Kr wO sz3 rfl rfl hr_50 wz (ae (.vs (av 0) 1 0 ((s_28.2.1).toNat)) wz rfl (aj (Il 0 rfl (GV 0 0 rfl rfl (PW 2 0 rfl rfl (rY hr_50) (GV 54 0 rfl rfl (GV 57 0 rfl rfl (PW 59 0 rfl rfl (rY hr_50) (Ik (i:=0) rfl ?_)))))))))
       obtain rfl:=ah hc_9
       obtain rfl:=ah hL_10
       obtain rfl:=ah hF
       exact aG (y9 (bs:=([]:List Box)) (os:=([]:List Box)) (xs:=s_1) (o:=none) (.inr rfl) [(vL eI (cutL (s_28.1.take ((s_28.2.1).toNat)++List.replicate (((s_28.1.length:Int)).toNat-(s_28.2.1).toNat) 0++s_28.1.drop (((s_28.2.1).toNat)+(((s_28.1.length:Int)).toNat-(s_28.2.1).toNat))) 0 ((s_28.2.1).toNat)))] ⟨rfl,trivial⟩ rfl rfl rfl rfl rfl (by kernel_rfl) yV rfl)
     ·refine aB rfl hc_20 (ax (aa (ae (vI s_8) wz rfl (ae (vI (w64 (s_8+1))) wz rfl (ae (vI (w64 (s_8+1))) wz rfl (aj ?_))))))
      obtain rfl:=ah hc_9
      exact aO (k_3,(w64 (s_8+1))) hL_10 (ls_ _) rfl (aJ rfl)
    ·refine aB rfl hc_13 (aP ?_)
     obtain rfl:=ah hc_9
     obtain rfl:=ah hL_10
     exact aN (s_8) rfl rfl (aJ rfl)
  ·rintro s_8 ho_ sl_ H_ hp_ hq_
   subst ho_
   refine aL _ hp_ hq_ (af (aa (ae (dV (av 0) 1 s_1) wz rfl (ae (dV (av 0) 1 s_1) wz rfl (aj (gJ 0 rfl (zX 0 0 rfl rfl (zX 2 0 rfl rfl (zX 60 0 rfl rfl (Ik (i:=0) rfl ?_))))))))))
   obtain rfl:=ah hF
   exact aG (y9 (bs:=([]:List Box)) (os:=([]:List Box)) (xs:=s_1) (o:=none) (.inr rfl) [(vL eI s_1)] ⟨rfl,trivial⟩ rfl rfl rfl rfl rfl (by kernel_rfl) yV rfl)
theorem F8 {a_1:Alert} {endv_2:Int} {atv_3:Int} {r:Bool} (hF:tY a_1 endv_2 atv_3=some r) :
  FnM Tryz.prog 72 [(.d (.agg (Alert.enc a_1))),(vI endv_2),(vI atv_3)] [] (vB r) []:=by
 refine FnM.of_wH ⟨Tryz.prog,21,[],[]⟩ rfl Tryz.func72 rfl rfl (lb_ rfl) (by kernel_rfl) ?_
 unfold tY at hF
 refine af (aa (dL 0 (.inl rfl) [(vS a_1.Id),(vS a_1.Sender),(vI a_1.Kind),(vL eS a_1.Refs),(vI a_1.At),(vI a_1.Until),(vI a_1.Weight),(vL Rect.enc a_1.Areas),(vS a_1.Text)] rfl rfl wz (λn_4=>ae (vB false) wz rfl (aj (af ?_)))))
 obtain ⟨v_5,h_6,hF⟩:=bind_some hF
 refine aD (β:=Unit) (λ_=>([(6,(vB v_5))]:SL_)) (λ_=>([(n_4,some (.cells 9 [(vS a_1.Id),(vS a_1.Sender),(vI a_1.Kind),(vL eS a_1.Refs),(vI a_1.At),(vI a_1.Until),(vI a_1.Weight),(vL Rect.enc a_1.Areas),(vS a_1.Text)]))]:Hp)) (λ_=>True) ?_ ?_
 ·refine aa (aH BA rfl 2 rfl wz (aA 0 0 il ft sz3 ag3 rfl rfl (vI a_1.Kind) rfl wz (ae (vB (a_1.Kind != 3)) wz rfl ?_)))
  rcases au h_6 with⟨hc_7,h_6⟩|⟨hc_7,h_6⟩
  ·refine aF rfl hc_7 wz (aH oL rfl 4 rfl wa (aA 0 0 il ft sz3 ag3 rfl rfl (vI a_1.At) rfl wa (ae (vI atv_3) wa rfl (ae (vB (decide (a_1.At<=atv_3))) wa rfl (ae (vB (decide (a_1.At<=atv_3))) wz rfl ?_)))))
   rcases au h_6 with⟨hc_8,h_6⟩|⟨hc_8,h_6⟩
   ·refine aF rfl hc_8 wz (ae (vI atv_3) wa rfl (ae (vI endv_2) wa rfl (ae (vB (decide (atv_3<endv_2))) wa rfl (ae (vB (decide (atv_3<endv_2))) wz rfl (ae (vB (decide (atv_3<endv_2))) wz rfl (aj ?_))))))
    obtain rfl:=ah h_6
    exact cu
   ·refine aF rfl hc_8 wz (ak wa (ak wa (ak wa (ae (vB false) wz rfl (ae (vB false) wz rfl (aj ?_))))))
    obtain rfl:=ah h_6
    exact cu
  ·refine aF rfl hc_7 wz (ak wa (ak wa (ak wa (ak wa (ae (vB false) wz rfl (ae (vB false) wz rfl (ak wa (ak wa (ak wa (ae (vB false) wz rfl (ae (vB false) wz rfl (aj ?_))))))))))))
   obtain rfl:=ah h_6
   exact cu
 ·rintro ⟨⟩ _ sl_ H_ hp_ hq_
  refine aL _ hp_ hq_ ?_
  obtain rfl:=ah hF
  exact aG (aU (.inr rfl) [(vB v_5)] ⟨rfl,trivial⟩ rfl rfl rfl)
theorem Ab {r_1:Rect} {p_2:Post} {r:Bool} (hF:mh r_1 p_2=some r) :
  FnM Tryz.prog 114 [(.d (.agg (Rect.enc r_1))),(.ref (av 0) 0 0)] [(.cells 3 [(vS p_2.Player),(vI p_2.X),(vI p_2.Y)])] (vB r) [some (.cells 3 [(vS p_2.Player),(vI p_2.X),(vI p_2.Y)])]:=by
 refine FnM.of_wH ⟨Tryz.prog,36,[],[]⟩ rfl Tryz.func114 rfl rfl (lb_ rfl) (by kernel_rfl) ?_
 unfold mh at hF
 refine af (aa (dL 0 (.inl rfl) [(vI r_1.X),(vI r_1.Y),(vI r_1.W),(vI r_1.H)] rfl rfl wz (λn_3=>ae (vB false) wz rfl (aj (af ?_)))))
 obtain ⟨v_4,h_5,hF⟩:=bind_some hF
 refine aD (β:=Unit) (λ_=>([(3,(vB v_4))]:SL_)) (λ_=>([((av 0),some (.cells 3 [(vS p_2.Player),(vI p_2.X),(vI p_2.Y)])),(n_3,some (.cells 4 [(vI r_1.X),(vI r_1.Y),(vI r_1.W),(vI r_1.H)]))]:Hp)) (λ_=>True) ?_ ?_
 ·refine aa (aH Cg rfl 0 rfl wz (aA 0 1 il ft sz3 ag3 rfl rfl (vI r_1.X) rfl wz (aH Lt rfl 1 rfl wz (aA 0 0 il ft sz3 ag3 rfl rfl (vI p_2.X) rfl wz (ae (vB (decide (r_1.X<=p_2.X))) wz rfl ?_)))))
  rcases au h_5 with⟨hc_6,h_5⟩|⟨hc_6,h_5⟩
  ·refine aF rfl hc_6 wz (aH Lt rfl 1 rfl wa (aA 0 0 il ft sz3 ag3 rfl rfl (vI p_2.X) rfl wa (aH Cg rfl 0 rfl wa (aA 0 1 il ft sz3 ag3 rfl rfl (vI r_1.X) rfl wa (aH IG rfl 2 rfl wa (aA 0 1 il ft sz3 ag3 rfl rfl (vI r_1.W) rfl wa (ae (vI (w64 (r_1.X+r_1.W))) wa rfl (ae (vB (decide (p_2.X<(w64 (r_1.X+r_1.W))))) wa rfl (ae (vB (decide (p_2.X<(w64 (r_1.X+r_1.W))))) wz rfl ?_)))))))))
   rcases au h_5 with⟨hc_7,h_5⟩|⟨hc_7,h_5⟩
   ·refine aF rfl hc_7 wz (aH yl rfl 1 rfl wa (aA 0 1 il ft sz3 ag3 rfl rfl (vI r_1.Y) rfl wa (aH LD rfl 2 rfl wa (aA 0 0 il ft sz3 ag3 rfl rfl (vI p_2.Y) rfl wa (ae (vB (decide (r_1.Y<=p_2.Y))) wa rfl (ae (vB (decide (r_1.Y<=p_2.Y))) wz rfl ?_))))))
    rcases au h_5 with⟨hc_8,h_5⟩|⟨hc_8,h_5⟩
    ·refine aF rfl hc_8 wz (aH LD rfl 2 rfl wa (aA 0 0 il ft sz3 ag3 rfl rfl (vI p_2.Y) rfl wa (aH yl rfl 1 rfl wa (aA 0 1 il ft sz3 ag3 rfl rfl (vI r_1.Y) rfl wa (aH Fe rfl 3 rfl wa (aA 0 1 il ft sz3 ag3 rfl rfl (vI r_1.H) rfl wa (ae (vI (w64 (r_1.Y+r_1.H))) wa rfl (ae (vB (decide (p_2.Y<(w64 (r_1.Y+r_1.H))))) wa rfl (ae (vB (decide (p_2.Y<(w64 (r_1.Y+r_1.H))))) wz rfl (ae (vB (decide (p_2.Y<(w64 (r_1.Y+r_1.H))))) wz rfl (aj ?_)))))))))))
     obtain rfl:=ah h_5
     exact cu
    ·refine aF rfl hc_8 wz (ak wa (ak wa (ak wa (ak wa (ak wa (ak wa (ak wa (ak wa (ae (vB false) wz rfl (ae (vB false) wz rfl (aj ?_)))))))))))
     obtain rfl:=ah h_5
     exact cu
   ·refine aF rfl hc_7 wz (ak wa (ak wa (ak wa (ak wa (ak wa (ae (vB false) wz rfl (ae (vB false) wz rfl (ak wa (ak wa (ak wa (ak wa (ak wa (ak wa (ak wa (ak wa (ae (vB false) wz rfl (ae (vB false) wz rfl (aj ?_))))))))))))))))))
    obtain rfl:=ah h_5
    exact cu
  ·refine aF rfl hc_6 wz (ak wa (ak wa (ak wa (ak wa (ak wa (ak wa (ak wa (ak wa (ae (vB false) wz rfl (ae (vB false) wz rfl (ak wa (ak wa (ak wa (ak wa (ak wa (ae (vB false) wz rfl (ae (vB false) wz rfl (ak wa (ak wa (ak wa (ak wa (ak wa (ak wa ?_)))))))))))))))))))))))
   refine ak wa (ak wa (ae (vB false) wz rfl (ae (vB false) wz rfl (aj ?_))))
   obtain rfl:=ah h_5
   exact cu
 ·rintro ⟨⟩ _ sl_ H_ hp_ hq_
  refine aL _ hp_ hq_ ?_
  obtain rfl:=ah hF
  exact aG (wE (.inr rfl) [(vB v_4)] _ [0] [av 0] ⟨rfl,trivial⟩ (.cons (jF rfl rfl) (.nil)) (by kernel_rfl) ⟨(by kernel_rfl),trivial⟩ (by decide) (by kernel_rfl))
theorem nM {s_1:(List Rect)} {f_2:Rect->Option Bool} {r:Int} {gid:FuncId} {caps:List V} {Sin:List Box} (hfn:∀x0 r,f_2 x0=some r->FnM Tryz.prog gid ([(.d (.agg (Rect.enc x0)))]++caps) Sin (vB r) (Sin.map some)) (hbF:aK Tryz.prog gid=true) (hcapF:caps.flatMap frz=[]/\caps.map co0=caps) (hokF:okL Sin.length caps=true) (hsF:∀b∈Sin,b.ok Sin.length=true) (hmF:∀b∈Sin,b.mut=true) (hF:fo s_1 f_2=some r) :
  FnM Tryz.prog 139 [(vL Rect.enc s_1),(.fn gid caps)] Sin (vI r) (Sin.map some):=by
 refine FnM.of_wH ⟨Tryz.prog,19,[],[]⟩ rfl Tryz.func139 rfl rfl (lb_ rfl) (by kernel_rfl) ?_
 unfold fo at hF
 refine af (aa (ae (vI 0) wz rfl (aj (af (af (aa (ae (vL Rect.enc s_1) wz rfl (bW BB rfl wz (ae (vI 0) wz rfl (aj ?_))))))))))
 obtain ⟨o_11,hj_12,hF⟩:=bind_some hF
 obtain ⟨hn_7,hj_12⟩:=aV hj_12
 refine aD (β:=(Unit)) (λ(s_8:Unit)=>([]:SL_)) (λ(s_8:Unit)=>(nT 0 Sin)) (λp=>o_11 = .go p) ?_ ?_
 ·refine ay (aS (β:=Nat×(List Rect)×(Unit)) (λp=>(λ(k_3:Nat) (l_4:List Rect) (s_8:Unit)=>([(0,(vL Rect.enc s_1)),(1,(.fn gid caps)),(7,(vI (s_1.length:Int))),(8,(vI (k_3:Int)))]:SL_)) p.1 p.2.1 p.2.2) (λp=>(λ(k_3:Nat) (l_4:List Rect) (s_8:Unit)=>(nT 0 Sin)) p.1 p.2.1 p.2.2) (λp=>forR (λk x s=>bH f_2 k x s) p.2.1 p.1 p.2.2=some o_11/\(s_1).drop p.1=p.2.1) (λp=>p.2.1.length) (0,s_1,()) ⟨hj_12,rfl⟩ rfl (pG _) ?_)
  rintro ⟨k_3,l_4,s_8⟩ ⟨hL_10,hD_6⟩
  dsimp only at hL_10 hD_6
  cases l_4 with
  | nil =>
   obtain rfl:=ah hL_10
   refine af (aa (ae (vB (decide ((k_3:Int)<(s_1.length:Int)))) wz rfl (aj ?_)))
   refine af (aB rfl (drop_nil hD_6) (aP ?_))
   exact aN (s_8) rfl rfl (pG _)
  | cons x_5 l_4 =>
   obtain ⟨c_,hc_9,hL_10⟩:=bind_some hL_10
   refine af (aa (ae (vB (decide ((k_3:Int)<(s_1.length:Int)))) wz rfl (aj ?_)))
   refine af (aC rfl (bf hD_6) (ax ?_))
   unfold bH at hc_9
   refine af (ay (af (aa (ae (vI (k_3:Int)) wz rfl (ae (vI (k_3:Int)) wz rfl (aj (af (aa (ae (.fn gid caps) wz rfl (ae (vL Rect.enc s_1) wz rfl (ae (vI (k_3:Int)) wz rfl (dK Iu rfl rfl (bG hD_6) rfl wz (bB vH Io rfl (.d (.agg (Rect.enc x_5))) rfl wz ?_)))))))))))))
   obtain ⟨r_13,hr_14,hc_9⟩:=bind_some hc_9
   refine DN (hfn _ _ hr_14) rfl hbF rfl rfl hcapF hokF hsF hmF rfl wz rfl (aj ?_)
   rcases au hc_9 with⟨hc_15,hc_9⟩|⟨hc_15,hc_9⟩
   ·refine aC rfl hc_15 (af (aa (ae (vI (k_3:Int)) wz rfl (ae (vI (k_3:Int)) wz rfl (aj ?_)))))
    obtain rfl:=ah hc_9
    obtain rfl:=ah hL_10
    obtain rfl:=ah hF
    exact aG (K3 hsF (.inr rfl) [(vI (k_3:Int))] ⟨rfl,trivial⟩ rfl rfl rfl)
   ·refine aB rfl hc_15 (ax (aa (fu (bA hD_6 hn_7) wz rfl (ae (vI ((k_3+1:Nat):Int)) wz rfl (aj ?_)))))
    obtain rfl:=ah hc_9
    exact aO (k_3+1,l_4,()) ⟨hL_10,aR hD_6⟩ (ls_ _) rfl (pG _)
 ·rintro s_8 ho_ sl_ H_ hp_ hq_
  subst ho_
  refine aL _ hp_ hq_ (af (aa (ae (vI (-1)) wz rfl (aj ?_))))
  obtain rfl:=ah hF
  exact aG (K3 hsF (.inr rfl) [(vI (-1))] ⟨rfl,trivial⟩ rfl rfl rfl)
theorem mH {s_1:(List Rect)} {f_2:Rect->Option Bool} {r:Bool} {gid:FuncId} {caps:List V} {Sin:List Box} (hfn:∀x0 r,f_2 x0=some r->FnM Tryz.prog gid ([(.d (.agg (Rect.enc x0)))]++caps) Sin (vB r) (Sin.map some)) (hbF:aK Tryz.prog gid=true) (hcapF:caps.flatMap frz=[]/\caps.map co0=caps) (hokF:okL Sin.length caps=true) (hsF:∀b∈Sin,b.ok Sin.length=true) (hmF:∀b∈Sin,b.mut=true) (hF:dx s_1 f_2=some r) :
  FnM Tryz.prog 113 [(vL Rect.enc s_1),(.fn gid caps)] Sin (vB r) (Sin.map some):=by
 refine FnM.of_wH ⟨Tryz.prog,9,[],[]⟩ rfl Tryz.func113 rfl rfl (lb_ rfl) (by kernel_rfl) ?_
 unfold dx at hF
 refine af (aa (ae (vB false) wz rfl (aj (af (aa (ae (vL Rect.enc s_1) wz rfl (ae (.fn gid caps) wz rfl ?_)))))))
 obtain ⟨r_3,hr_4,hF⟩:=bind_some hF
 refine DN (nM (gid:=gid) (caps:=caps) (Sin:=Sin) hfn hbF hcapF hokF hsF hmF hr_4) rfl hb139 rfl rfl ⟨rfl,rfl⟩ (by simp [okL,okV,hokF]) hsF hmF rfl wz rfl (ae (vB (decide (r_3>=0))) wz rfl (ae (vB (decide (r_3>=0))) wz rfl (aj ?_)))
 obtain rfl:=ah hF
 exact aG (K3 hsF (.inr rfl) [(vB (decide (r_3>=0)))] ⟨rfl,trivial⟩ rfl rfl rfl)
theorem Cf {a_1:Alert} {p_2:Post} {r:Bool} (hF:oo a_1 p_2=some r) :
  FnM Tryz.prog 73 [(.d (.agg (Alert.enc a_1))),(.d (.agg (Post.enc p_2)))] [] (vB r) []:=by
 refine FnM.of_wH ⟨Tryz.prog,9,[],[]⟩ rfl Tryz.func73 rfl rfl (lb_ rfl) (by kernel_rfl) ?_
 unfold oo at hF
 refine af (aa (dL 0 (.inl rfl) [(vS a_1.Id),(vS a_1.Sender),(vI a_1.Kind),(vL eS a_1.Refs),(vI a_1.At),(vI a_1.Until),(vI a_1.Weight),(vL Rect.enc a_1.Areas),(vS a_1.Text)] rfl rfl wz (λn_3=>dL 0 (.inl rfl) [(vS p_2.Player),(vI p_2.X),(vI p_2.Y)] rfl rfl wz (λn_4=>ae (vB false) wz rfl (aj (af (aa (aH Cy rfl 7 rfl wz (aA 0 0 il ft JZ KE rfl rfl (vL Rect.enc a_1.Areas) rfl wz (ae (.fn 114 [(.ref n_4 0 0)]) wz rfl ?_))))))))))
 obtain ⟨r_5,hr_6,hF⟩:=bind_some hF
 refine bS 0 [1] il ft (mH (gid:=114) (caps:=[.ref (av 0) 0 0]) (Sin:=[(.cells 3 [(vS p_2.Player),(vI p_2.X),(vI p_2.Y)])]) (λ_ _ h_=>Ab h_) hb114 ⟨rfl,rfl⟩ (by kernel_rfl) (KG (by kernel_rfl)) (IA (by kernel_rfl)) hr_6) rfl hb113 rfl (by kernel_rfl) (by kernel_rfl) (by kernel_rfl) (by kernel_rfl) (by kernel_rfl) (by kernel_rfl) (by kernel_rfl) (by decide) (by kernel_rfl) wz (vB r_5) (by kernel_rfl) ([(n_3,some (.cells 9 [(vS a_1.Id),(vS a_1.Sender),(vI a_1.Kind),(vL eS a_1.Refs),(vI a_1.At),(vI a_1.Until),(vI a_1.Weight),(vL Rect.enc a_1.Areas),(vS a_1.Text)])),(n_4,some (.cells 3 [(vS p_2.Player),(vI p_2.X),(vI p_2.Y)]))]:Hp) (by kernel_rfl) (ae (vB r_5) wz rfl (aj ?_))
 obtain rfl:=ah hF
 exact aG (aU (.inr rfl) [(vB r_5)] ⟨rfl,trivial⟩ rfl rfl rfl)
theorem Dj {a_1:Alert} {b_2:Alert} {r:Int} (hF:nO a_1 b_2=some r) :
  FnM Tryz.prog 74 [(.d (.agg (Alert.enc a_1))),(.d (.agg (Alert.enc b_2)))] [] (vI r) []:=by
 refine FnM.of_wH ⟨Tryz.prog,22,[],[]⟩ rfl Tryz.func74 rfl rfl (lb_ rfl) (by kernel_rfl) ?_
 unfold nO at hF
 refine af (aa (dL 0 (.inl rfl) [(vS a_1.Id),(vS a_1.Sender),(vI a_1.Kind),(vL eS a_1.Refs),(vI a_1.At),(vI a_1.Until),(vI a_1.Weight),(vL Rect.enc a_1.Areas),(vS a_1.Text)] rfl rfl wz (λn_3=>dL 0 (.inl rfl) [(vS b_2.Id),(vS b_2.Sender),(vI b_2.Kind),(vL eS b_2.Refs),(vI b_2.At),(vI b_2.Until),(vI b_2.Weight),(vL Rect.enc b_2.Areas),(vS b_2.Text)] rfl rfl wz (λn_4=>ae (vI 0) wz rfl (aj (af (aW (aH K4 rfl 6 rfl wz (aA 1 1 (.inr (by kernel_rfl)) (λ_ _ ag=>trivial) sz3 ag3 rfl rfl (vI b_2.Weight) rfl wz (aH K4 rfl 6 rfl wz (aA 3 0 (.inr (by kernel_rfl)) (λ_ _ ag=>⟨.inl ⟨rfl,rfl⟩,trivial⟩) sz3 ag3 rfl rfl (vI a_1.Weight) rfl wz ?_)))))))))))
 obtain ⟨r_5,hr_6,hF⟩:=bind_some hF
 refine aI (gM hr_6) rfl Lu rfl rfl rfl rfl wz (aH oL rfl 4 rfl wz (aA 6 1 (.inr (by kernel_rfl)) (λ_ _ ag=>⟨.inl ⟨rfl,rfl⟩,⟨.inl ⟨rfl,rfl⟩,trivial⟩⟩) sz3 ag3 rfl rfl (vI b_2.At) rfl wz (aH oL rfl 4 rfl wz (aA 8 0 (.inr (by kernel_rfl)) (λ_ _ ag=>⟨.inl ⟨rfl,rfl⟩,⟨.inl ⟨rfl,rfl⟩,⟨.inl ⟨rfl,rfl⟩,trivial⟩⟩⟩) sz3 ag3 rfl rfl (vI a_1.At) rfl wz ?_))))
 obtain ⟨r_7,hr_8,hF⟩:=bind_some hF
 refine aI (gM hr_8) rfl Lu rfl rfl rfl rfl wz (aH rO rfl 0 rfl wz (aA 11 0 (.inr (by kernel_rfl)) (λ_ _ ag=>⟨.inl ⟨rfl,rfl⟩,⟨.inl ⟨rfl,rfl⟩,⟨.inl ⟨rfl,rfl⟩,⟨.inl ⟨rfl,rfl⟩,trivial⟩⟩⟩⟩) sz9 ag9 rfl rfl (vS a_1.Id) rfl wz (aH rO rfl 0 rfl wz (aA 13 1 (.inr (by kernel_rfl)) (λ_ _ ag=>⟨.inl ⟨rfl,rfl⟩,⟨.inl ⟨rfl,rfl⟩,⟨.inl ⟨rfl,rfl⟩,⟨.inl ⟨rfl,rfl⟩,⟨.inl ⟨rfl,rfl⟩,trivial⟩⟩⟩⟩⟩) sz9 ag9 rfl rfl (vS b_2.Id) rfl wz ?_))))
 obtain ⟨r_9,hr_10,hF⟩:=bind_some hF
 refine aI (lI hr_10) rfl hb82 rfl rfl rfl rfl wz (dW (([r_5,r_7,r_9]:List Int).map eI) jf uh rfl rfl rfl rfl rfl wz ?_)
 obtain ⟨r_11,hr_12,hF⟩:=bind_some hF
 refine aI (qK hr_12) rfl hb81 rfl rfl rfl rfl wz (ae (vI r_11) wz rfl (aj ?_))
 obtain rfl:=ah hF
 exact aG (aU (.inr rfl) [(vI r_11)] ⟨rfl,trivial⟩ rfl rfl rfl)
theorem lu {data_1:(List Alert)} {a_2:Int} {b_3:Int} {r:(List Alert)} (hF:fE data_1 a_2 b_3=some r) :
  FnM Tryz.prog 57 [(dV (av 0) 9 data_1),(vI a_2),(vI b_3),(.fn 74 [])] (([]:List Box)++gI 9 Alert.enc data_1) (.tup []) (([]:List Box).map some++gT data_1 (gB 9 Alert.enc r)):=by
 refine FnM.of_wHv ⟨Tryz.prog,53,[],[]⟩ rfl Tryz.func57 rfl rfl (lb_ rfl) (by kernel_rfl) ?_
 unfold fE at hF
 refine af (aa (ae (vI a_2) wz rfl (ae (vI (w64 (a_2+1))) wz rfl (ae (vI (w64 (a_2+1))) wz rfl (aj ?_)))))
 obtain ⟨o_13,hj_14,hF⟩:=bind_some hF
 obtain ⟨nq_51,hj_14⟩:=bR hj_14
 refine aD (β:=((List Alert)×Int)) (λ(s_10:(List Alert)×Int)=>([]:SL_)) (λ(s_10:(List Alert)×Int)=>([((av 0),gB 9 Alert.enc s_10.1)]:Hp)) (λp=>o_13 = .go p) ?_ ?_
 ·refine ay (aS (β:=Nat×((List Alert)×Int)) (λp=>(λ(k_5:Nat) (s_10:(List Alert)×Int)=>([(0,(dV (av 0) 9 s_10.1)),(1,(vI a_2)),(2,(vI b_3)),(3,(.fn 74 [])),(8,(vI s_10.2))]:SL_)) p.1 p.2) (λp=>(λ(k_5:Nat) (s_10:(List Alert)×Int)=>([((av 0),gB 9 Alert.enc s_10.1)]:Hp)) p.1 p.2) (λp=>iterN (λs=>eP b_3 a_2 s) p.1 p.2=some o_13) (λp=>p.1) (nq_51,(data_1,(w64 (a_2+1)))) hj_14 rfl (aJ rfl) ?_)
  rintro ⟨k_5,s_10⟩ hL_12
  dsimp only at hL_12
  cases k_5 with
  | zero=>cases hL_12
  | succ k_5 =>
   obtain ⟨c_,hc_11,hL_12⟩:=bind_some hL_12
   unfold eP at hc_11
   refine af (af (aa (ae (vI s_10.2) wz rfl (ae (vI b_3) wz rfl (ae (vB (decide (s_10.2<b_3))) wz rfl (aj ?_))))))
   rcases au hc_11 with⟨hc_15,hc_11⟩|⟨hc_15,hc_11⟩
   ·refine aC rfl hc_15 (ax (af (ay (af (aa (ae (vI s_10.2) wz rfl (ae (vI s_10.2) wz rfl (aj ?_))))))))
    obtain ⟨o_24,hj_25,hc_11⟩:=bind_some hc_11
    obtain ⟨nq_50,hj_25⟩:=bR hj_25
    refine aD (β:=((List Alert)×Int)) (λ(s_21:(List Alert)×Int)=>([(0,(dV (av 0) 9 s_21.1)),(1,(vI a_2)),(2,(vI b_3)),(3,(.fn 74 [])),(8,(vI s_10.2))]:SL_)) (λ(s_21:(List Alert)×Int)=>([((av 0),gB 9 Alert.enc s_21.1)]:Hp)) (λp=>o_24 = .go p) ?_ ?_
    ·refine ay (aS (β:=Nat×((List Alert)×Int)) (λp=>(λ(k_16:Nat) (s_21:(List Alert)×Int)=>([(0,(dV (av 0) 9 s_21.1)),(1,(vI a_2)),(2,(vI b_3)),(3,(.fn 74 [])),(8,(vI s_10.2)),(9,(vI s_21.2))]:SL_)) p.1 p.2) (λp=>(λ(k_16:Nat) (s_21:(List Alert)×Int)=>([((av 0),gB 9 Alert.enc s_21.1)]:Hp)) p.1 p.2) (λp=>iterN (λs=>eU a_2 s) p.1 p.2=some o_24) (λp=>p.1) (nq_50,(s_10.1,s_10.2)) hj_25 rfl (aJ rfl) ?_)
     rintro ⟨k_16,s_21⟩ hL_23
     dsimp only at hL_23
     cases k_16 with
     | zero=>cases hL_23
     | succ k_16 =>
      obtain ⟨c_,hc_22,hL_23⟩:=bind_some hL_23
      unfold eU at hc_22
      refine af (af ?_)
      obtain ⟨v_26,h_27,hc_22⟩:=bind_some hc_22
      refine aD (β:=Unit) (λ_=>([(0,(dV (av 0) 9 s_21.1)),(1,(vI a_2)),(2,(vI b_3)),(3,(.fn 74 [])),(8,(vI s_10.2)),(9,(vI s_21.2)),(34,(vB v_26))]:SL_)) (λ_=>([((av 0),gB 9 Alert.enc s_21.1)]:Hp)) (λ_=>True) ?_ ?_
      ·refine aW (ae (vI s_21.2) wz rfl (ae (vI a_2) wz rfl (ae (vB (decide (s_21.2>a_2))) wz rfl ?_)))
       rcases au h_27 with⟨hc_28,h_27⟩|⟨hc_28,h_27⟩
       ·refine aF rfl hc_28 wz (ae (.fn 74 []) wa rfl (ae (dV (av 0) 9 s_21.1) wa rfl (ae (vI s_21.2) wa rfl ?_)))
        obtain ⟨_,hi_29,h_27⟩:=bind_some h_27
        refine jQ uo rfl rfl (ig hi_29) (eX hi_29) wa ?_
        obtain ⟨e_30,hy_31,h_27⟩:=bind_some h_27
        refine jr 8 0 (.inr (by kernel_rfl)) (λ_ _ ag=>trivial) lL qZ rfl rfl hy_31 (.d (.agg (Alert.enc e_30))) rfl wa (ae (dV (av 0) 9 s_21.1) wa rfl (ae (vI s_21.2) wa rfl (ae (vI (w64 (s_21.2-1))) wa rfl ?_)))
        obtain ⟨_,hi_32,h_27⟩:=bind_some h_27
        refine jQ uo rfl rfl (ig hi_32) (eX hi_32) wa ?_
        obtain ⟨e_33,hy_34,h_27⟩:=bind_some h_27
        refine jr 13 0 (.inr (by kernel_rfl)) (λ_ _ ag=>⟨.inl ⟨rfl,rfl⟩,trivial⟩) lL qZ rfl rfl hy_34 (.d (.agg (Alert.enc e_33))) rfl wa ?_
        obtain ⟨r_35,hr_36,h_27⟩:=bind_some h_27
        refine aI (Dj hr_36) rfl hb74 rfl rfl rfl rfl wa (ae (vB (decide (r_35<0))) wa rfl (ae (vB (decide (r_35<0))) wz rfl (aj ?_)))
        obtain rfl:=ah h_27
        exact cu
       ·refine aF rfl hc_28 wz (ak wa (ak wa (ak wa (ak wa (ak wa (ak wa (ak wa (ak wa (ak wa (ak wa (ak wa (ak wa (ae (vB false) wz rfl (aj ?_))))))))))))))
        obtain rfl:=ah h_27
        exact cu
      ·rintro ⟨⟩ _ sl_ H_ hp_ hq_
       refine aL _ hp_ hq_ ?_
       rcases au hc_22 with⟨hc_37,hc_22⟩|⟨hc_37,hc_22⟩
       ·refine aC rfl hc_37 (ax (af (ay (aW (ae (dV (av 0) 9 s_21.1) wz rfl (ae (vI s_21.2) wz rfl (ae (dV (av 0) 9 s_21.1) wz rfl (ae (vI s_21.2) wz rfl (ae (vI (w64 (s_21.2-1))) wz rfl (ae (dV (av 0) 9 s_21.1) wz rfl (ae (vI s_21.2) wz rfl (ae (vI (w64 (s_21.2-1))) wz rfl ?_))))))))))))
        obtain ⟨_,hi_38,hc_22⟩:=bind_some hc_22
        refine jQ uo rfl rfl (ig hi_38) (eX hi_38) wz ?_
        obtain ⟨e_39,hy_40,hc_22⟩:=bind_some hc_22
        refine jr 9 0 (.inr (by kernel_rfl)) (λ_ _ ag=>trivial) lL qZ rfl rfl hy_40 (.d (.agg (Alert.enc e_39))) rfl wz (ae (dV (av 0) 9 s_21.1) wz rfl (ae (vI s_21.2) wz rfl ?_))
        obtain ⟨_,hi_41,hc_22⟩:=bind_some hc_22
        refine jQ uo rfl rfl (ig hi_41) (eX hi_41) wz ?_
        obtain ⟨e_42,hy_43,hc_22⟩:=bind_some hc_22
        refine jr 13 0 (.inr (by kernel_rfl)) (λ_ _ ag=>⟨.inl ⟨rfl,rfl⟩,trivial⟩) lL qZ rfl rfl hy_43 (.d (.agg (Alert.enc e_42))) rfl wz ?_
        obtain ⟨_,hi_44,hc_22⟩:=bind_some hc_22
        refine jQ uo rfl rfl (ig hi_44) (eX hi_44) wz ?_
        obtain ⟨e_45,hy_46,hc_22⟩:=bind_some hc_22
        refine sU 15 (.inr (by kernel_rfl)) (λ_ _ ag=>⟨.inr (.inr (by kernel_rfl)),⟨.inr (.inr (by kernel_rfl)),trivial⟩⟩) 0 lL rfl rfl hy_46 e_39 rfl wz (dn (v':=(dV (av 0) 9 (s_21.1.set (0+(s_21.2).toNat) e_39))) 0 rfl (dQ (by simp)) (dn (v':=(dV (av 0) 9 (s_21.1.set (0+(s_21.2).toNat) e_39))) 37 rfl (dQ (by simp)) (dn (v':=(dV (av 0) 9 (s_21.1.set (0+(s_21.2).toNat) e_39))) 39 rfl (dQ (by simp)) (dn (v':=(dV (av 0) 9 (s_21.1.set (0+(s_21.2).toNat) e_39))) 42 rfl (dQ (by simp)) (dn (v':=(dV (av 0) 9 (s_21.1.set (0+(s_21.2).toNat) e_39))) 47 rfl (dQ (by simp)) ?_)))))
        obtain ⟨_,hi_47,hc_22⟩:=bind_some hc_22
        refine jQ uo rfl rfl (ig hi_47) (eX hi_47) wz ?_
        obtain ⟨e_48,hy_49,hc_22⟩:=bind_some hc_22
        refine sU 17 (.inr (by kernel_rfl)) (λ_ _ ag=>⟨.inr (.inr (by kernel_rfl)),⟨.inr (.inr (by kernel_rfl)),⟨.inr (.inr (by kernel_rfl)),trivial⟩⟩⟩) 0 lL rfl rfl hy_49 e_42 rfl wz (dn (v':=(dV (av 0) 9 ((s_21.1.set (0+(s_21.2).toNat) e_39).set (0+((w64 (s_21.2-1))).toNat) e_42))) 0 rfl (dQ (by simp)) (dn (v':=(dV (av 0) 9 ((s_21.1.set (0+(s_21.2).toNat) e_39).set (0+((w64 (s_21.2-1))).toNat) e_42))) 37 rfl (dQ (by simp)) (dn (v':=(dV (av 0) 9 ((s_21.1.set (0+(s_21.2).toNat) e_39).set (0+((w64 (s_21.2-1))).toNat) e_42))) 39 rfl (dQ (by simp)) (dn (v':=(dV (av 0) 9 ((s_21.1.set (0+(s_21.2).toNat) e_39).set (0+((w64 (s_21.2-1))).toNat) e_42))) 42 rfl (dQ (by simp)) (dn (v':=(dV (av 0) 9 ((s_21.1.set (0+(s_21.2).toNat) e_39).set (0+((w64 (s_21.2-1))).toNat) e_42))) 47 rfl (dQ (by simp)) (aj (aa (ae (vI s_21.2) wz rfl (ae (vI (w64 (s_21.2-1))) wz rfl (ae (vI (w64 (s_21.2-1))) wz rfl (aj ?_)))))))))))
        obtain rfl:=ah hc_22
        exact aO (k_16,(((s_21.1.set (0+(s_21.2).toNat) e_39).set (0+((w64 (s_21.2-1))).toNat) e_42),(w64 (s_21.2-1)))) hL_23 (ls_ _) rfl (aJ rfl)
       ·refine aB rfl hc_37 (aP ?_)
        obtain rfl:=ah hc_22
        obtain rfl:=ah hL_23
        exact aN ((s_21.1,s_21.2)) rfl rfl (aJ rfl)
    ·rintro s_21 ho_ sl_ H_ hp_ hq_
     subst ho_
     refine aL _ hp_ hq_ (aa (ae (vI s_10.2) wz rfl (ae (vI (w64 (s_10.2+1))) wz rfl (ae (vI (w64 (s_10.2+1))) wz rfl (aj ?_)))))
     obtain rfl:=ah hc_11
     exact aO (k_5,(s_21.1,(w64 (s_10.2+1)))) hL_12 (ls_ _) rfl (aJ rfl)
   ·refine aB rfl hc_15 (aP ?_)
    obtain rfl:=ah hc_11
    obtain rfl:=ah hL_12
    exact aN ((s_10.1,s_10.2)) rfl rfl (aJ rfl)
 ·rintro s_10 ho_ sl_ H_ hp_ hq_
  subst ho_
  show uO _ _ _ _ _ _ _ _
  obtain rfl:=ah hF
  exact yO (H0:=([((av 0),gB 9 Alert.enc s_10.1)]:Hp)) (sl':=envS []) hq_ (y9 (bs:=([]:List Box)) (os:=([]:List Box)) (xs:=data_1) (o:=gB 9 Alert.enc s_10.1) (.inl rfl) [] trivial rfl rfl rfl rfl rfl (by kernel_rfl) kX rfl)
theorem nR {data_1:(List Alert)} {a_2:Int} {b_3:Int} {limit_4:Int} {r:(List Alert)} (hF:gN data_1 a_2 b_3 limit_4=some r) :
  FnM Tryz.prog 27 [(dV (av 0) 9 data_1),(vI a_2),(vI b_3),(vI limit_4),(.fn 74 [])] (([]:List Box)++gI 9 Alert.enc data_1) (.tup []) (([]:List Box).map some++gT data_1 (gB 9 Alert.enc r)):=by
 refine FnM.of_wHv ⟨Tryz.prog,148,[],[]⟩ rfl Tryz.func27 rfl rfl (lb_ rfl) (by kernel_rfl) ?_
 unfold gN at hF
 refine af (aa (ae (vB true) wz rfl (aj (af (aa (ae (vB true) wz rfl (aj ?_)))))))
 obtain ⟨o_14,hj_15,hF⟩:=bind_some hF
 obtain ⟨nq_21,hj_15⟩:=bR hj_15
 refine aD (β:=(Unit)) (λ(s_11:Unit)=>([]:SL_)) (λ(s_11:Unit)=>([((av 0),gB 9 Alert.enc data_1)]:Hp)) (λp=>o_14 = .go p) ?_ ?_
 ·refine ay (aS (β:=Nat×(Unit)) (λp=>(λ(k_6:Nat) (s_11:Unit)=>([(0,(dV (av 0) 9 data_1)),(1,(vI a_2)),(2,(vI b_3)),(3,(vI limit_4)),(4,(.fn 74 [])),(10,(vB true)),(11,(vB true))]:SL_)) p.1 p.2) (λp=>(λ(k_6:Nat) (s_11:Unit)=>([((av 0),gB 9 Alert.enc data_1)]:Hp)) p.1 p.2) (λp=>iterN (λs=>fU b_3 a_2 data_1 limit_4 s) p.1 p.2=some o_14) (λp=>p.1) (nq_21,()) hj_15 rfl (aJ rfl) ?_)
  rintro ⟨k_6,s_11⟩ hL_13
  dsimp only at hL_13
  cases k_6 with
  | zero=>cases hL_13
  | succ k_6 =>
   obtain ⟨c_,hc_12,hL_13⟩:=bind_some hL_13
   unfold fU at hc_12
   refine ay (af (aa (ae (vI b_3) wz rfl (ae (vI a_2) wz rfl (ae (vI (w64 (b_3-a_2))) wz rfl (ae (vI (w64 (b_3-a_2))) wz rfl (aj (af (af (aa (ae (vI (w64 (b_3-a_2))) wz rfl (ae (vB (decide ((w64 (b_3-a_2))<=12))) wz rfl (aj ?_)))))))))))))
   rcases au hc_12 with⟨hc_16,hc_12⟩|⟨hc_16,hc_12⟩
   ·refine aC rfl hc_16 (af (aa (ae (dV (av 0) 9 data_1) wz rfl (ae (vI a_2) wz rfl (ae (vI b_3) wz rfl (ae (.fn 74 []) wz rfl ?_))))))
    obtain ⟨r_17,hr_18,hc_12⟩:=bind_some hc_12
    obtain ⟨_,hs_19,hc_12⟩:=bind_some hc_12
    replace hs_19:=lm hs_19
    refine kw 0 [] 0 0 il ft (lu hr_18) rfl hb57 rfl rfl rfl (by kernel_rfl) rfl (.inr (.inl rfl)) rfl (by kernel_rfl) (by kernel_rfl) (by kernel_rfl) (by kernel_rfl) rfl (by decide) (by kernel_rfl) kX (uC hs_19) wz ([((av 0),gB 9 Alert.enc r_17)]:Hp) (by kernel_rfl) (dn (v':=(dV (av 0) 9 r_17)) 0 rfl (dQ hs_19.symm) (dn (v':=(dV (av 0) 9 r_17)) 26 rfl (dQ hs_19.symm) (aj ?_)))
    obtain rfl:=ah hc_12
    obtain rfl:=ah hL_13
    obtain rfl:=ah hF
    exact aG (y9 (bs:=([]:List Box)) (os:=([]:List Box)) (xs:=data_1) (o:=gB 9 Alert.enc r_17) (.inr rfl) [] trivial rfl rfl rfl rfl rfl (by kernel_rfl) kX rfl)
   ·refine aB rfl hc_16 (ax (af (af (aa (ae (vI limit_4) wz rfl (ae (vB (limit_4==0)) wz rfl (aj ?_)))))))
    rcases au hc_12 with⟨hc_20,hc_12⟩|⟨hc_20,hc_12⟩
    ·refine aC rfl hc_20 (af (aa (ae (dV (av 0) 9 data_1) wz rfl (ae (vI a_2) wz rfl (ae (vI b_3) wz rfl (ae (.fn 74 []) wz rfl ?_))))))
     cases hc_12
    ·refine aB rfl hc_20 (ax (af (af (aa (ae (vB true) wz rfl (ae (vB false) wz rfl (aj (aB rfl rfl (ax (af (aa (ae (dV (av 0) 9 data_1) wz rfl (ae (vI a_2) wz rfl (ae (vI b_3) wz rfl (ae (.fn 74 []) wz rfl ?_)))))))))))))))
     cases hc_12
 ·rintro s_11 ho_ sl_ H_ hp_ hq_
  subst ho_
  show uO _ _ _ _ _ _ _ _
  obtain rfl:=ah hF
  exact yO (H0:=([((av 0),gB 9 Alert.enc data_1)]:Hp)) (sl':=envS []) hq_ (y9 (bs:=([]:List Box)) (os:=([]:List Box)) (xs:=data_1) (o:=gB 9 Alert.enc data_1) (.inl rfl) [] trivial rfl rfl rfl rfl rfl (by kernel_rfl) kX rfl)
theorem l7 {x_1:(List Alert)} {r:(List Alert)} (hF:di x_1=some r) :
  FnM Tryz.prog 15 [(dV (av 0) 9 x_1),(.fn 74 [])] (([]:List Box)++gI 9 Alert.enc x_1) (.tup []) (([]:List Box).map some++gT x_1 (gB 9 Alert.enc r)):=by
 refine FnM.of_wHv ⟨Tryz.prog,14,[],[]⟩ rfl Tryz.func15 rfl rfl (lb_ rfl) (by kernel_rfl) ?_
 unfold di at hF
 refine af (aa (ae (dV (av 0) 9 x_1) wz rfl (zQ FP rfl wz (ae (vI (x_1.length:Int)) wz rfl (aj (aa (ae (dV (av 0) 9 x_1) wz rfl (ae (vI (x_1.length:Int)) wz rfl (ae (vI (x_1.length:Int)) wz rfl (nD un3 K8 rfl wz ?_))))))))))
 obtain ⟨r_3,hr_4,hF⟩:=bind_some hF
 refine aI (qw hr_4) rfl hb28 rfl rfl rfl rfl wz (ae (.fn 74 []) wz rfl ?_)
 obtain ⟨r_5,hr_6,hF⟩:=bind_some hF
 obtain ⟨_,hs_7,hF⟩:=bind_some hF
 replace hs_7:=lm hs_7
 refine kw 0 [] 0 0 il ft (nR hr_6) rfl hb27 rfl rfl rfl (by kernel_rfl) rfl (.inr (.inl rfl)) rfl (by kernel_rfl) (by kernel_rfl) (by kernel_rfl) (by kernel_rfl) rfl (by decide) (by kernel_rfl) kX (uC hs_7) wz ([((av 0),gB 9 Alert.enc r_5)]:Hp) (by kernel_rfl) (dn (v':=(dV (av 0) 9 r_5)) 0 rfl (dQ hs_7.symm) (dn (v':=(dV (av 0) 9 r_5)) 5 rfl (dQ hs_7.symm) (dn (v':=(dV (av 0) 9 r_5)) 7 rfl (dQ hs_7.symm) (aj ?_))))
 show uO _ _ _ _ _ _ _ _
 obtain rfl:=ah hF
 exact y9 (bs:=([]:List Box)) (os:=([]:List Box)) (xs:=x_1) (o:=gB 9 Alert.enc r_5) (.inl rfl) [] trivial rfl rfl rfl rfl rfl (by kernel_rfl) kX rfl
theorem De {l_1:(List Alert)} {endv_2:(List Int)} {p_3:Post} {atv_4:Int} {r:(List Alert)} (hF:qa l_1 endv_2 p_3 atv_4=some r) :
  FnM Tryz.prog 35 [(vL Alert.enc l_1),(vL eI endv_2),(.d (.agg (Post.enc p_3))),(vI atv_4)] [] (vL Alert.enc r) []:=by
 refine FnM.of_wH ⟨Tryz.prog,39,[],[]⟩ rfl Tryz.func35 rfl rfl (lb_ rfl) (by kernel_rfl) ?_
 unfold qa at hF
 refine af (aa (dL 0 (.inl rfl) [(vS p_3.Player),(vI p_3.X),(vI p_3.Y)] rfl rfl wz (λn_5=>ae .nil wz rfl (aj (af (aa (ae .nil wz rfl (aj (af (af (aa (ae (vL Alert.enc l_1) wz rfl (bW FP rfl wz (ae (vI 0) wz rfl (aj (kg (λn_12 => ?_)))))))))))))))))
 obtain ⟨o_17,hj_18,hF⟩:=bind_some hF
 obtain ⟨hn_10,hj_18⟩:=aV hj_18
 refine aD (β:=((List Alert))×Nm) (λp=>(λ(s_11:List Alert) (n_14:Nm)=>([(9,(gV n_14 9 s_11))]:SL_)) p.1 p.2) (λp=>(λ(s_11:List Alert) (n_14:Nm)=>([(n_5,some (.cells 3 [(vS p_3.Player),(vI p_3.X),(vI p_3.Y)])),(n_14,gB 9 Alert.enc s_11)]:Hp)) p.1 p.2) (λp=>o_17 = .go p.1) ?_ ?_
 ·refine ay (aS (β:=Nat×(List Alert)×((List Alert))×Nm) (λp=>(λ(k_6:Nat) (l_7:List Alert) (s_11:List Alert) (n_14:Nm)=>([(1,(vL eI endv_2)),(3,(vI atv_4)),(6,(.ref n_5 0 0)),(9,(gV n_14 9 s_11)),(12,(vL Alert.enc l_1)),(13,(vI (l_1.length:Int))),(14,(vI (k_6:Int)))]:SL_)) p.1 p.2.1 p.2.2.1 p.2.2.2) (λp=>(λ(k_6:Nat) (l_7:List Alert) (s_11:List Alert) (n_14:Nm)=>([(n_5,some (.cells 3 [(vS p_3.Player),(vI p_3.X),(vI p_3.Y)])),(n_14,gB 9 Alert.enc s_11)]:Hp)) p.1 p.2.1 p.2.2.1 p.2.2.2) (λp=>forR (λk x s=>mf endv_2 atv_4 p_3 k x s) p.2.1 p.1 p.2.2.1=some o_17/\(l_1).drop p.1=p.2.1) (λp=>p.2.1.length) (0,l_1,([]:List Alert),n_12) ⟨hj_18,rfl⟩ rfl (aJ rfl) ?_)
  rintro ⟨k_6,l_7,s_11,n_14⟩ ⟨hL_16,hD_9⟩
  dsimp only at hL_16 hD_9
  cases l_7 with
  | nil =>
   obtain rfl:=ah hL_16
   refine af (aa (ae (vB (decide ((k_6:Int)<(l_1.length:Int)))) wz rfl (aj ?_)))
   refine af (aB rfl (drop_nil hD_9) (aP ?_))
   exact aN (s_11,n_14) rfl rfl (aJ rfl)
  | cons x_8 l_7 =>
   obtain ⟨c_,hc_15,hL_16⟩:=bind_some hL_16
   refine af (aa (ae (vB (decide ((k_6:Int)<(l_1.length:Int)))) wz rfl (aj ?_)))
   refine af (aC rfl (bf hD_9) (ax ?_))
   unfold mf at hc_15
   refine af (ay (af (aa (ae (vI (k_6:Int)) wz rfl (dK uo rfl rfl (bG hD_9) rfl wz (bB lL qZ rfl (.d (.agg (Alert.enc x_8))) rfl wz (cK 0 (.inl rfl) z52 rfl wz (λn_19=>ae (vI (k_6:Int)) wz rfl (eD 0 il ft 2 lL rfl rfl [(vS x_8.Id),(vS x_8.Sender),(vI x_8.Kind),(vL eS x_8.Refs),(vI x_8.At),(vI x_8.Until),(vI x_8.Weight),(vL Rect.enc x_8.Areas),(vS x_8.Text)] rfl wz (aj (af ?_)))))))))))
   obtain ⟨v_20,h_21,hc_15⟩:=bind_some hc_15
   refine aD (β:=Unit) (λ_=>([(1,(vL eI endv_2)),(3,(vI atv_4)),(6,(.ref n_5 0 0)),(9,(gV n_14 9 s_11)),(11,(.ref n_19 0 0)),(12,(vL Alert.enc l_1)),(13,(vI (l_1.length:Int))),(14,(vI (k_6:Int))),(30,(vB v_20))]:SL_)) (λ_=>([(n_5,some (.cells 3 [(vS p_3.Player),(vI p_3.X),(vI p_3.Y)])),(n_14,gB 9 Alert.enc s_11),(n_19,some (.cells 9 [(vS x_8.Id),(vS x_8.Sender),(vI x_8.Kind),(vL eS x_8.Refs),(vI x_8.At),(vI x_8.Until),(vI x_8.Weight),(vL Rect.enc x_8.Areas),(vS x_8.Text)]))]:Hp)) (λ_=>True) ?_ ?_
   ·refine aW (aA 0 2 (.inr (by kernel_rfl)) (λ_ _ ag=>trivial) lL qZ rfl rfl (.d (.agg (Alert.enc x_8))) rfl wz (ae (vL eI endv_2) wz rfl (ae (vI (k_6:Int)) wz rfl ?_)))
    obtain ⟨y_22,hy_23,h_21⟩:=bind_some h_21
    refine dK jf rfl rfl hy_23 rfl wz (bB sz3 ag3 rfl (vI y_22) rfl wz (ae (vI atv_4) wz rfl ?_))
    obtain ⟨r_24,hr_25,h_21⟩:=bind_some h_21
    refine aI (F8 hr_25) rfl hb72 rfl rfl rfl rfl wz ?_
    rcases au h_21 with⟨hc_26,h_21⟩|⟨hc_26,h_21⟩
    ·refine aF rfl hc_26 wz (aA 8 2 (.inr (by kernel_rfl)) (λ_ _ ag=>⟨.inl ⟨rfl,rfl⟩,trivial⟩) lL qZ rfl rfl (.d (.agg (Alert.enc x_8))) rfl wa (aA 9 0 (.inr (by kernel_rfl)) (λ_ _ ag=>⟨.inl ⟨rfl,rfl⟩,⟨.inl ⟨rfl,rfl⟩,trivial⟩⟩) Kb Nu rfl rfl (.d (.agg (Post.enc p_3))) rfl wa ?_))
     obtain ⟨r_27,hr_28,h_21⟩:=bind_some h_21
     refine aI (Cf hr_28) rfl hb73 rfl rfl rfl rfl wa (ae (vB r_27) wz rfl (aj ?_))
     obtain rfl:=ah h_21
     exact cu
    ·refine aF rfl hc_26 wz (ak wa (ak wa (ak wa (ae (vB false) wz rfl (aj ?_)))))
     obtain rfl:=ah h_21
     exact cu
   ·rintro ⟨⟩ _ sl_ H_ hp_ hq_
    refine aL _ hp_ hq_ ?_
    obtain ⟨v_29,h_30,hc_15⟩:=bind_some hc_15
    refine aD (β:=Nm) (λ(n_31:Nm)=>([(1,(vL eI endv_2)),(3,(vI atv_4)),(6,(.ref n_5 0 0)),(9,(gV n_31 9 v_29)),(12,(vL Alert.enc l_1)),(13,(vI (l_1.length:Int))),(14,(vI (k_6:Int)))]:SL_)) (λ(n_31:Nm)=>([(n_5,some (.cells 3 [(vS p_3.Player),(vI p_3.X),(vI p_3.Y)])),(n_31,gB 9 Alert.enc v_29),(n_19,some (.cells 9 [(vS x_8.Id),(vS x_8.Sender),(vI x_8.Kind),(vL eS x_8.Refs),(vI x_8.At),(vI x_8.Until),(vI x_8.Weight),(vL Rect.enc x_8.Areas),(vS x_8.Text)]))]:Hp)) (λ_=>True) ?_ ?_
    ·rcases au h_30 with⟨hc_32,h_30⟩|⟨hc_32,h_30⟩
     ·refine aC rfl hc_32 (aa (ae (gV n_14 9 s_11) wz rfl (aA 0 2 il ft lL qZ rfl rfl (.d (.agg (Alert.enc x_8))) rfl wz (dW (([x_8]:List Alert).map Alert.enc) uo ez26 rfl rfl rfl rfl rfl wz ?_))))
      obtain ⟨a_33,hz_34,h_30⟩:=bind_some h_30
      refine jS 0 il ft (i:=1) el26 el26 lL z52 rfl (by decide) by52 (by decide) (λ_=>rfl) rfl rfl rfl hz_34 wz (λn_35=>ae (gV n_35 9 a_33) wz rfl (aj ?_))
      obtain rfl:=ah h_30
      exact aN n_35 trivial rfl (aJ rfl)
     ·refine aB rfl hc_32 (ax ?_)
      obtain rfl:=ah h_30
      exact aN n_14 trivial rfl (aJ rfl)
    ·rintro n_31 _ sl_ H_ hp_ hq_
     refine aL _ hp_ hq_ (aa (fu (bA hD_9 hn_10) wz rfl (ae (vI ((k_6+1:Nat):Int)) wz rfl (aj ?_))))
     obtain rfl:=ah hc_15
     exact aO (k_6+1,l_7,v_29,n_31) ⟨hL_16,aR hD_9⟩ (ls_ _) rfl (aJ rfl)
 ·rintro ⟨s_11,n_14⟩ ho_ sl_ H_ hp_ hq_
  subst ho_
  refine aL _ hp_ hq_ (af (aa (ae (gV n_14 9 s_11) wz rfl ?_)))
  obtain ⟨r_36,hr_37,hF⟩:=bind_some hF
  obtain ⟨_,hs_38,hF⟩:=bind_some hF
  replace hs_38:=lm hs_38
  refine kw 0 [] 1 0 il ft (l7 hr_37) rfl hb15 rfl rfl rfl (by kernel_rfl) rfl (.inl rfl) rfl (by kernel_rfl) (by kernel_rfl) (by kernel_rfl) (by kernel_rfl) rfl (by decide) (by kernel_rfl) kX (uC hs_38) wz ([(n_5,some (.cells 3 [(vS p_3.Player),(vI p_3.X),(vI p_3.Y)])),(n_14,gB 9 Alert.enc r_36)]:Hp) (by kernel_rfl) (dn (v':=(gV n_14 9 r_36)) 36 rfl (iK hs_38.symm) (dn (v':=(gV n_14 9 r_36)) 9 rfl (iK hs_38.symm) (aj (af (aa (ae (gV n_14 9 r_36) wz rfl (ae (gV n_14 9 r_36) wz rfl (aj (gJ 1 rfl (dJ 8 1 rfl rfl (dJ 9 1 rfl rfl (dJ 36 1 rfl rfl (dJ 38 1 rfl rfl ?_)))))))))))))
  obtain rfl:=ah hF
  exact aG (aU (.inr rfl) [(vL Alert.enc r_36)] ⟨rfl,trivial⟩ rfl rfl rfl)
end Go.Proofs.YticmkhcacamhkaaGreatDoor.Law

