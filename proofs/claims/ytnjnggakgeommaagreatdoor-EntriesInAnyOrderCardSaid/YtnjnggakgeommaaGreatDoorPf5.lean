/-
 The machine computes these plain functions (written by a program of ours).
-/
import Derived.Test.YtnjnggakgeommaaGreatDoorFacts
import Derived.Test.YtnjnggakgeommaaGreatDoorDefs
import Derived.Test.YtnjnggakgeommaaGreatDoorPf4
open Go Go.Eng Go.Proofs
namespace Go.Proofs.YtnjnggakgeommaaGreatDoor.Law
set_option maxRecDepth 100000
set_option linter.unusedVariables false
set_option maxHeartbeats 1000000
theorem wo {l_1:(List Beat)} {r:Int} (hF:iZ l_1=some r) :
  FnM Tryz.prog 161 [(vL Beat.enc l_1)] [] (vI r) []:=by
 refine FnM.of_wH ⟨Tryz.prog,69,[],[]⟩ rfl Tryz.func161 rfl rfl (lb_ rfl) (by kernel_rfl) ?_
 unfold iZ at hF
 refine af (aa (ae (vI 0) wz rfl (ak (af (af (aa (ae (vL Beat.enc l_1) wz rfl (bJ JY rfl wz (ae (vB (decide ((l_1.length:Int)>500))) wz rfl (ak ?_))))))))))
 rcases au hF with⟨hc_2,hF⟩|⟨hc_2,hF⟩
 ·refine aB rfl hc_2 (af (aa (ae (vI 2) wz rfl (ak ?_))))
  obtain rfl:=aj hF
  exact ay (aO (.inr rfl) [(vI 2)] ⟨rfl,trivial⟩ rfl rfl rfl)
 ·refine aA rfl hc_2 (av (af (af (aa (ae (vL Beat.enc l_1) wz rfl (bJ JY rfl wz (ae (vI 0) wz rfl (ak ?_))))))))
  obtain ⟨o_11,hj_12,hF⟩:=bind_some hF
  obtain ⟨hn_7,hj_12⟩:=bg hj_12
  refine aH (β:=(Unit)) (λ(s_8:Unit)=>([]:SL_)) (λ(s_8:Unit)=>([]:Hp)) (λp=>o_11 = .go p) ?_ ?_
  ·refine aG (bv (β:=Nat×(List Beat)×(Unit)) (λp=>(λ(k_3:Nat) (l_4:List Beat) (s_8:Unit)=>([(0,(vL Beat.enc l_1)),(8,(vL Beat.enc l_1)),(9,(vI (l_1.length:Int))),(10,(vI (k_3:Int)))]:SL_)) p.1 p.2.1 p.2.2) (λp=>(λ(k_3:Nat) (l_4:List Beat) (s_8:Unit)=>([]:Hp)) p.1 p.2.1 p.2.2) (λp=>forR (λk x s=>gQ l_1 k x s) p.2.1 p.1 p.2.2=some o_11/\(l_1).drop p.1=p.2.1) (λp=>p.2.1.length) (0,l_1,()) ⟨hj_12,rfl⟩ rfl (aK rfl) ?_)
   rintro ⟨k_3,l_4,s_8⟩ ⟨hL_10,hD_6⟩
   dsimp only at hL_10 hD_6
   cases l_4 with
   | nil =>
    obtain rfl:=aj hL_10
    refine af (aa (ae (vB (decide ((k_3:Int)<(l_1.length:Int)))) wz rfl (ak ?_)))
    refine af (aA rfl (drop_nil hD_6) (aX ?_))
    exact aS (s_8) rfl rfl (aK rfl)
   | cons x_5 l_4 =>
    obtain ⟨c_,hc_9,hL_10⟩:=bind_some hL_10
    refine af (aa (ae (vB (decide ((k_3:Int)<(l_1.length:Int)))) wz rfl (ak ?_)))
    refine af (aB rfl (bz hD_6) (av ?_))
    unfold gQ at hc_9
    refine af (aG (af (aa (ae (vI (k_3:Int)) wz rfl (dP D6 rfl rfl (bE hD_6) rfl wz (bO DY Ih rfl (.d (.agg (Beat.enc x_5))) rfl wz (dA 0 (.inl rfl) z113 rfl wz (λn_13=>ae (vI (k_3:Int)) wz rfl (dX 0 il ft 0 DY rfl rfl [(vS x_5.Player),(vI x_5.At),(vI x_5.Clock)] rfl wz (ak (aG (af (aa (aF vR rfl 0 rfl wz (aC 0 0 il ft sz9 ag9 rfl rfl (vS x_5.Player) rfl wz ?_)))))))))))))))
    obtain ⟨r_14,hr_15,hc_9⟩:=bind_some hc_9
    refine aD (fA hr_15) rfl Bl rfl rfl rfl rfl wz (ae (vB (!r_14)) wz rfl (ae (vB (!r_14)) wz rfl (ak ?_)))
    rcases au hc_9 with⟨hc_16,hc_9⟩|⟨hc_16,hc_9⟩
    ·refine aB rfl hc_16 (af (aa (ae (vI 5) wz rfl (ak ?_))))
     obtain rfl:=aj hc_9
     obtain rfl:=aj hL_10
     obtain rfl:=aj hF
     exact ay (aO (.inr rfl) [(vI 5)] ⟨rfl,trivial⟩ rfl rfl rfl)
    ·refine aA rfl hc_16 (af ?_)
     obtain ⟨v_17,h_18,hc_9⟩:=bind_some hc_9
     refine aH (β:=Unit) (λ_=>([(0,(vL Beat.enc l_1)),(3,(vI (k_3:Int))),(4,(.ref n_13 0 0)),(8,(vL Beat.enc l_1)),(9,(vI (l_1.length:Int))),(10,(vI (k_3:Int))),(20,(vB v_17))]:SL_)) (λ_=>([(n_13,some (.cells 3 [(vS x_5.Player),(vI x_5.At),(vI x_5.Clock)]))]:Hp)) (λ_=>True) ?_ ?_
     ·refine aa (aF yC rfl 1 rfl wz (aC 0 0 il ft sz3 ag3 rfl rfl (vI x_5.At) rfl wz ?_))
      obtain ⟨r_19,hr_20,h_18⟩:=bind_some h_18
      refine aD (gN hr_20) rfl CJ rfl rfl rfl rfl wz (ae (vB (!r_19)) wz rfl ?_)
      rcases au h_18 with⟨hc_21,h_18⟩|⟨hc_21,h_18⟩
      ·refine ax rfl hc_21 wz (ah wa (ah wa (ah wa (ae (vB true) wz rfl (ae (vB true) wz rfl (ak ?_))))))
       obtain rfl:=aj h_18
       exact cu
      ·refine ax rfl hc_21 wz (aF yu rfl 2 rfl wa (aC 0 0 il ft sz3 ag3 rfl rfl (vI x_5.Clock) rfl wa ?_))
       obtain ⟨r_22,hr_23,h_18⟩:=bind_some h_18
       refine aD (bf hr_23) rfl qj rfl rfl rfl rfl wa (ae (vB r_22) wz rfl (ae (vB r_22) wz rfl (ak ?_)))
       obtain rfl:=aj h_18
       exact cu
     ·rintro ⟨⟩ _ sl_ H_ hp_ hq_
      refine aM _ hp_ hq_ ?_
      rcases au hc_9 with⟨hc_24,hc_9⟩|⟨hc_24,hc_9⟩
      ·refine aB rfl hc_24 (af (aa (ae (vI 1) wz rfl (ak ?_))))
       obtain rfl:=aj hc_9
       obtain rfl:=aj hL_10
       obtain rfl:=aj hF
       exact ay (aO (.inr rfl) [(vI 1)] ⟨rfl,trivial⟩ rfl rfl rfl)
      ·refine aA rfl hc_24 (af ?_)
       obtain ⟨v_25,h_26,hc_9⟩:=bind_some hc_9
       refine aH (β:=Unit) (λ_=>([(0,(vL Beat.enc l_1)),(3,(vI (k_3:Int))),(4,(.ref n_13 0 0)),(8,(vL Beat.enc l_1)),(9,(vI (l_1.length:Int))),(10,(vI (k_3:Int))),(30,(vB v_25))]:SL_)) (λ_=>([(n_13,some (.cells 3 [(vS x_5.Player),(vI x_5.At),(vI x_5.Clock)]))]:Hp)) (λ_=>True) ?_ ?_
       ·refine bG (ae (vI (k_3:Int)) wz rfl (ae (vB (decide ((k_3:Int)>0))) wz rfl ?_))
        rcases au h_26 with⟨hc_27,h_26⟩|⟨hc_27,h_26⟩
        ·refine ax rfl hc_27 wz (ae (vL Beat.enc l_1) wa rfl (ae (vI (k_3:Int)) wa rfl (ae (vI (w64 ((k_3:Int)-1))) wa rfl ?_)))
         obtain ⟨y_28,hy_29,h_26⟩:=bind_some h_26
         refine dP D6 rfl rfl hy_29 rfl wa (bO DY Ih rfl (.d (.agg (Beat.enc y_28))) rfl wa (aC 8 0 (.inr (by kernel_rfl)) (λ_ _ ag=>trivial) DY Ih rfl rfl (.d (.agg (Beat.enc x_5))) rfl wa ?_))
         obtain ⟨r_30,hr_31,h_26⟩:=bind_some h_26
         refine aD (uu hr_31) rfl hb210 rfl rfl rfl rfl wa (ae (vB (decide (r_30>=0))) wa rfl (ae (vB (decide (r_30>=0))) wz rfl (ae (vB (decide (r_30>=0))) wz rfl (ak ?_))))
         obtain rfl:=aj h_26
         exact cu
        ·refine ax rfl hc_27 wz (ah wa (ah wa (ah wa (ah wa (ah wa (ah wa (ah wa (ah wa (ae (vB false) wz rfl (ae (vB false) wz rfl (ak ?_)))))))))))
         obtain rfl:=aj h_26
         exact cu
       ·rintro ⟨⟩ _ sl_ H_ hp_ hq_
        refine aM _ hp_ hq_ ?_
        rcases au hc_9 with⟨hc_32,hc_9⟩|⟨hc_32,hc_9⟩
        ·refine aB rfl hc_32 (af (aa (ae (vI 7) wz rfl (ak ?_))))
         obtain rfl:=aj hc_9
         obtain rfl:=aj hL_10
         obtain rfl:=aj hF
         exact ay (aO (.inr rfl) [(vI 7)] ⟨rfl,trivial⟩ rfl rfl rfl)
        ·refine aA rfl hc_32 (af ?_)
         obtain ⟨v_33,h_34,hc_9⟩:=bind_some hc_9
         refine aH (β:=Unit) (λ_=>([(0,(vL Beat.enc l_1)),(8,(vL Beat.enc l_1)),(9,(vI (l_1.length:Int))),(10,(vI (k_3:Int))),(43,(vB v_33))]:SL_)) (λ_=>([(n_13,some (.cells 3 [(vS x_5.Player),(vI x_5.At),(vI x_5.Clock)]))]:Hp)) (λ_=>True) ?_ ?_
         ·refine bG (ae (vI (k_3:Int)) wz rfl (ae (vB (decide ((k_3:Int)>0))) wz rfl ?_))
          rcases au h_34 with⟨hc_35,h_34⟩|⟨hc_35,h_34⟩
          ·refine ax rfl hc_35 wz (aF vR rfl 0 rfl wa (aC 4 0 (.inr (by kernel_rfl)) (λ_ _ ag=>trivial) sz9 ag9 rfl rfl (vS x_5.Player) rfl wa (ae (vL Beat.enc l_1) wa rfl (ae (vI (k_3:Int)) wa rfl (ae (vI (w64 ((k_3:Int)-1))) wa rfl ?_)))))
           obtain ⟨y_36,hy_37,h_34⟩:=bind_some h_34
           refine dP D6 rfl rfl hy_37 rfl wa (p9 vR rfl [.str y_36.Player,.int .i64 y_36.At,.int .i64 y_36.Clock] rfl rfl wa (bO sz9 ag9 rfl (vS y_36.Player) rfl wa (ae (vB (sEq x_5.Player y_36.Player)) wa rfl (ae (vB (sEq x_5.Player y_36.Player)) wz rfl ?_))))
           rcases au h_34 with⟨hc_38,h_34⟩|⟨hc_38,h_34⟩
           ·refine ax rfl hc_38 wz (aF yu rfl 2 rfl wa (aC 15 0 (.inr (by kernel_rfl)) (λ_ _ ag=>⟨.inl ⟨rfl,rfl⟩,trivial⟩) sz3 ag3 rfl rfl (vI x_5.Clock) rfl wa (ae (vL Beat.enc l_1) wa rfl (ae (vI (k_3:Int)) wa rfl (ae (vI (w64 ((k_3:Int)-1))) wa rfl ?_)))))
            obtain ⟨y_39,hy_40,h_34⟩:=bind_some h_34
            refine dP D6 rfl rfl hy_40 rfl wa (p9 yu rfl [.int .i64 y_39.Clock] rfl rfl wa (bO sz3 ag3 rfl (vI y_39.Clock) rfl wa (ae (vB (decide (x_5.Clock<=y_39.Clock))) wa rfl (ae (vB (decide (x_5.Clock<=y_39.Clock))) wz rfl (ae (vB (decide (x_5.Clock<=y_39.Clock))) wz rfl (ak ?_))))))
            obtain rfl:=aj h_34
            exact cu
           ·refine ax rfl hc_38 wz (ah wa (ah wa (ah wa (ah wa (ah wa (ah wa (ah wa (ah wa (ah wa (ae (vB false) wz rfl (ae (vB false) wz rfl (ak ?_))))))))))))
            obtain rfl:=aj h_34
            exact cu
          ·refine ax rfl hc_35 wz (ah wa (ah wa (ah wa (ah wa (ah wa (ah wa (ah wa (ah wa (ah wa (ae (vB false) wz rfl (ae (vB false) wz rfl (ah wa (ah wa (ah wa (ah wa (ah wa (ah wa (ah wa (ah wa (ah wa (ae (vB false) wz rfl (ae (vB false) wz rfl (ak ?_)))))))))))))))))))))))
           obtain rfl:=aj h_34
           exact cu
         ·rintro ⟨⟩ _ sl_ H_ hp_ hq_
          refine aM _ hp_ hq_ ?_
          rcases au hc_9 with⟨hc_41,hc_9⟩|⟨hc_41,hc_9⟩
          ·refine aB rfl hc_41 (af (aa (ae (vI 16) wz rfl (ak ?_))))
           obtain rfl:=aj hc_9
           obtain rfl:=aj hL_10
           obtain rfl:=aj hF
           exact ay (aO (.inr rfl) [(vI 16)] ⟨rfl,trivial⟩ rfl rfl rfl)
          ·refine aA rfl hc_41 (av (aa (eQ (bB hD_6 hn_7) wz rfl (ae (vI ((k_3+1:Nat):Int)) wz rfl (ak ?_)))))
           obtain rfl:=aj hc_9
           exact aY (k_3+1,l_4,()) ⟨hL_10,aR hD_6⟩ (ls_ _) rfl (aK rfl)
  ·rintro s_8 ho_ sl_ H_ hp_ hq_
   subst ho_
   refine aM _ hp_ hq_ (af (aa (ae (vI 0) wz rfl (ak ?_))))
   obtain rfl:=aj hF
   exact ay (aO (.inr rfl) [(vI 0)] ⟨rfl,trivial⟩ rfl rfl rfl)
theorem zn {l_1:(List Beat)} {player_2:ByteArray} {back_3:Bool} {r:(List Beat_)} (hF:nI l_1 player_2 back_3=some r) :
  FnM Tryz.prog 163 [(vL Beat.enc l_1),(vS player_2),(vB back_3)] [] (vL Beat_.enc r) []:=by
 refine FnM.of_wH ⟨Tryz.prog,41,[],[]⟩ rfl Tryz.func163 rfl rfl (lb_ rfl) (by kernel_rfl) ?_
 unfold nI at hF
 refine af (aa (ae .nil wz rfl (ak (af (aa (ae .nil wz rfl (ak (af (af (aa (ae (vL Beat.enc l_1) wz rfl (bJ JY rfl wz (ae (vI 0) wz rfl (ak (kZ (λn_10 => ?_))))))))))))))))
 obtain ⟨o_15,hj_16,hF⟩:=bind_some hF
 obtain ⟨hn_8,hj_16⟩:=bg hj_16
 refine aH (β:=((List Beat_))×Nm) (λp=>(λ(s_9:List Beat_) (n_12:Nm)=>([(7,(gV n_12 2 s_9))]:SL_)) p.1 p.2) (λp=>(λ(s_9:List Beat_) (n_12:Nm)=>([(n_12,gB 2 Beat_.enc s_9)]:Hp)) p.1 p.2) (λp=>o_15 = .go p.1) ?_ ?_
 ·refine aG (bv (β:=Nat×(List Beat)×((List Beat_))×Nm) (λp=>(λ(k_4:Nat) (l_5:List Beat) (s_9:List Beat_) (n_12:Nm)=>([(1,(vS player_2)),(2,(vB back_3)),(7,(gV n_12 2 s_9)),(10,(vL Beat.enc l_1)),(11,(vI (l_1.length:Int))),(12,(vI (k_4:Int)))]:SL_)) p.1 p.2.1 p.2.2.1 p.2.2.2) (λp=>(λ(k_4:Nat) (l_5:List Beat) (s_9:List Beat_) (n_12:Nm)=>([(n_12,gB 2 Beat_.enc s_9)]:Hp)) p.1 p.2.1 p.2.2.1 p.2.2.2) (λp=>forR (λk x s=>nD player_2 back_3 k x s) p.2.1 p.1 p.2.2.1=some o_15/\(l_1).drop p.1=p.2.1) (λp=>p.2.1.length) (0,l_1,([]:List Beat_),n_10) ⟨hj_16,rfl⟩ rfl (aK rfl) ?_)
  rintro ⟨k_4,l_5,s_9,n_12⟩ ⟨hL_14,hD_7⟩
  dsimp only at hL_14 hD_7
  cases l_5 with
  | nil =>
   obtain rfl:=aj hL_14
   refine af (aa (ae (vB (decide ((k_4:Int)<(l_1.length:Int)))) wz rfl (ak ?_)))
   refine af (aA rfl (drop_nil hD_7) (aX ?_))
   exact aS (s_9,n_12) rfl rfl (aK rfl)
  | cons x_6 l_5 =>
   obtain ⟨c_,hc_13,hL_14⟩:=bind_some hL_14
   refine af (aa (ae (vB (decide ((k_4:Int)<(l_1.length:Int)))) wz rfl (ak ?_)))
   refine af (aB rfl (bz hD_7) (av ?_))
   unfold nD at hc_13
   refine af (aG (af (aa (dP D6 rfl rfl (bE hD_7) rfl wz (bO DY Ih rfl (.d (.agg (Beat.enc x_6))) rfl wz (dA 0 (.inl rfl) z113 rfl wz (λn_17=>dX 0 il ft 1 DY rfl rfl [(vS x_6.Player),(vI x_6.At),(vI x_6.Clock)] rfl wz (ak (aG (af (aa (aF vR rfl 0 rfl wz (aC 0 1 il ft sz9 ag9 rfl rfl (vS x_6.Player) rfl wz (ae (vS player_2) wz rfl (ae (vB (sNe x_6.Player player_2)) wz rfl (ae (vB (sNe x_6.Player player_2)) wz rfl (ak ?_)))))))))))))))))
   obtain ⟨v_18,h_19,hc_13⟩:=bind_some hc_13
   refine aH (β:=Nm) (λ(n_20:Nm)=>([(1,(vS player_2)),(2,(vB back_3)),(7,(gV n_20 2 v_18)),(10,(vL Beat.enc l_1)),(11,(vI (l_1.length:Int))),(12,(vI (k_4:Int)))]:SL_)) (λ(n_20:Nm)=>([(n_20,gB 2 Beat_.enc v_18),(n_17,some (.cells 3 [(vS x_6.Player),(vI x_6.At),(vI x_6.Clock)]))]:Hp)) (λ_=>True) ?_ ?_
   ·rcases au h_19 with⟨hc_21,h_19⟩|⟨hc_21,h_19⟩
    ·refine aB rfl hc_21 (av ?_)
     obtain rfl:=aj h_19
     exact aS n_12 trivial rfl (aK rfl)
    ·refine aA rfl hc_21 (af (aa (ae (vB back_3) wz rfl (ae (vB back_3) wz rfl (ak ?_)))))
     rcases au h_19 with⟨hc_22,h_19⟩|⟨hc_22,h_19⟩
     ·refine aB rfl hc_22 (aa (ae (gV n_12 2 s_9) wz rfl (aF yC rfl 1 rfl wz (aC 0 1 il ft sz3 ag3 rfl rfl (vI x_6.At) rfl wz (aF yu rfl 2 rfl wz (aC 0 1 il ft sz3 ag3 rfl rfl (vI x_6.Clock) rfl wz (ae (.d (.agg (Beat_.enc (⟨x_6.At,x_6.Clock⟩:Beat_)))) wz (by kernel_rfl) (eO (([(⟨x_6.At,x_6.Clock⟩:Beat_)]:List Beat_).map Beat_.enc) xH ez214 rfl rfl rfl rfl rfl wz ?_))))))))
      obtain ⟨a_23,hz_24,h_19⟩:=bind_some h_19
      refine jH 0 il ft (i:=0) Ie Ie Dk z254 rfl (by decide) by254 (by decide) (λ_=>rfl) rfl rfl rfl hz_24 wz (λn_25=>ae (gV n_25 2 a_23) wz rfl (ak ?_))
      obtain rfl:=aj h_19
      exact aS n_25 trivial rfl (aK rfl)
     ·refine aA rfl hc_22 (aa (ae (gV n_12 2 s_9) wz rfl (aF yu rfl 2 rfl wz (aC 0 1 il ft sz3 ag3 rfl rfl (vI x_6.Clock) rfl wz (aF yC rfl 1 rfl wz (aC 0 1 il ft sz3 ag3 rfl rfl (vI x_6.At) rfl wz (ae (.d (.agg (Beat_.enc (⟨x_6.Clock,x_6.At⟩:Beat_)))) wz (by kernel_rfl) (eO (([(⟨x_6.Clock,x_6.At⟩:Beat_)]:List Beat_).map Beat_.enc) xH ez214 rfl rfl rfl rfl rfl wz ?_))))))))
      obtain ⟨a_26,hz_27,h_19⟩:=bind_some h_19
      refine jH 0 il ft (i:=0) Ie Ie Dk z254 rfl (by decide) by254 (by decide) (λ_=>rfl) rfl rfl rfl hz_27 wz (λn_28=>ae (gV n_28 2 a_26) wz rfl (ak ?_))
      obtain rfl:=aj h_19
      exact aS n_28 trivial rfl (aK rfl)
   ·rintro n_20 _ sl_ H_ hp_ hq_
    refine aM _ hp_ hq_ (aa (eQ (bB hD_7 hn_8) wz rfl (ae (vI ((k_4+1:Nat):Int)) wz rfl (ak ?_))))
    obtain rfl:=aj hc_13
    exact aY (k_4+1,l_5,v_18,n_20) ⟨hL_14,aR hD_7⟩ (ls_ _) rfl (aK rfl)
 ·rintro ⟨s_9,n_12⟩ ho_ sl_ H_ hp_ hq_
  subst ho_
  refine aM _ hp_ hq_ (af (aa (ae (gV n_12 2 s_9) wz rfl (ae (gV n_12 2 s_9) wz rfl (ak (fB 0 rfl (ek 6 0 rfl rfl (ek 7 0 rfl rfl (ek 40 0 rfl rfl ?_)))))))))
  obtain rfl:=aj hF
  exact ay (aO (.inr rfl) [(vL Beat_.enc s_9)] ⟨rfl,trivial⟩ rfl rfl rfl)
theorem z8 {l_1:(List Beat_)} {n_2:Int} {r:Int×Int} (hF:mf l_1 n_2=some r) :
  FnM Tryz.prog 162 [(vL Beat_.enc l_1),(vI n_2)] [] (.tup [(vI r.1),(vI r.2)]) []:=by
 refine FnM.of_wH ⟨Tryz.prog,108,[],[]⟩ rfl Tryz.func162 rfl rfl (lb_ rfl) (by kernel_rfl) ?_
 unfold mf at hF
 refine af (aa (ae (vI 0) wz rfl (ae (vI 0) wz rfl (ak (af (af (aa (ae (vL Beat_.enc l_1) wz rfl (bJ Lt rfl wz (ae (vB ((l_1.length:Int)==0)) wz rfl (ak ?_)))))))))))
 rcases au hF with⟨hc_3,hF⟩|⟨hc_3,hF⟩
 ·refine aB rfl hc_3 (af (aa (ae (vI 0) wz rfl (ae (vI 8) wz rfl (ak ?_)))))
  obtain rfl:=aj hF
  exact ay (aO (.inr rfl) [(vI 0),(vI 8)] ⟨rfl,⟨rfl,trivial⟩⟩ rfl rfl rfl)
 ·refine aA rfl hc_3 (av (af (aa (ae (vI 0) wz rfl (ak (af ?_))))))
  obtain ⟨o_12,hj_13,hF⟩:=bind_some hF
  obtain ⟨nq_51,hj_13⟩:=d9 hj_13
  refine aH (β:=(Int)) (λ(s_9:Int)=>([(0,(vL Beat_.enc l_1)),(1,(vI n_2)),(6,(vI s_9))]:SL_)) (λ(s_9:Int)=>([]:Hp)) (λp=>o_12 = .go p) ?_ ?_
  ·refine aG (bv (β:=Nat×(Int)) (λp=>(λ(k_4:Nat) (s_9:Int)=>([(0,(vL Beat_.enc l_1)),(1,(vI n_2)),(6,(vI s_9))]:SL_)) p.1 p.2) (λp=>(λ(k_4:Nat) (s_9:Int)=>([]:Hp)) p.1 p.2) (λp=>iterN (λs=>lD l_1 n_2 s) p.1 p.2=some o_12) (λp=>p.1) (nq_51,0) hj_13 rfl (aK rfl) ?_)
   rintro ⟨k_4,s_9⟩ hL_11
   dsimp only at hL_11
   cases k_4 with
   | zero=>cases hL_11
   | succ k_4 =>
    obtain ⟨c_,hc_10,hL_11⟩:=bind_some hL_11
    unfold lD at hc_10
    refine af (af ?_)
    obtain ⟨v_14,h_15,hc_10⟩:=bind_some hc_10
    refine aH (β:=Unit) (λ_=>([(0,(vL Beat_.enc l_1)),(1,(vI n_2)),(6,(vI s_9)),(25,(vB v_14))]:SL_)) (λ_=>([]:Hp)) (λ_=>True) ?_ ?_
    ·refine aa (ae (vI s_9) wz rfl (ae (vL Beat_.enc l_1) wz rfl (bJ Lt rfl wz (ae (vB (decide (s_9<(l_1.length:Int)))) wz rfl ?_))))
     rcases au h_15 with⟨hc_16,h_15⟩|⟨hc_16,h_15⟩
     ·refine ax rfl hc_16 wz (ae (vL Beat_.enc l_1) wa rfl (ae (vI s_9) wa rfl ?_))
      obtain ⟨y_17,hy_18,h_15⟩:=bind_some h_15
      refine dP xH rfl rfl hy_18 rfl wa (p9 qF rfl [.int .i64 y_17.f_from,.int .i64 y_17.f_to] rfl rfl wa (bO sz3 ag3 rfl (vI y_17.f_from) rfl wa (ae (vI n_2) wa rfl (ae (vB (decide (y_17.f_from<=n_2))) wa rfl (ae (vB (decide (y_17.f_from<=n_2))) wz rfl (ak ?_))))))
      obtain rfl:=aj h_15
      exact cu
     ·refine ax rfl hc_16 wz (ah wa (ah wa (ah wa (ah wa (ah wa (ah wa (ah wa (ae (vB false) wz rfl (ak ?_)))))))))
      obtain rfl:=aj h_15
      exact cu
    ·rintro ⟨⟩ _ sl_ H_ hp_ hq_
     refine aM _ hp_ hq_ ?_
     rcases au hc_10 with⟨hc_19,hc_10⟩|⟨hc_19,hc_10⟩
     ·refine aB rfl hc_19 (av (aG (aa (ae (vI s_9) wz rfl (ae (vI (w64 (s_9+1))) wz rfl (ae (vI (w64 (s_9+1))) wz rfl (ak ?_)))))))
      obtain rfl:=aj hc_10
      exact aY (k_4,(w64 (s_9+1))) hL_11 (ls_ _) rfl (aK rfl)
     ·refine aA rfl hc_19 (aX ?_)
      obtain rfl:=aj hc_10
      obtain rfl:=aj hL_11
      exact aS (s_9) rfl rfl (aK rfl)
  ·rintro s_9 ho_ sl_ H_ hp_ hq_
   subst ho_
   refine aM _ hp_ hq_ (af (aa (ae (vI 0) wz rfl (ak (af (aG (af (aa (ae (vI s_9) wz rfl (ae (vB (s_9==0)) wz rfl (ae (vB (s_9==0)) wz rfl (ak ?_))))))))))))
   rcases au hF with⟨hc_20,hF⟩|⟨hc_20,hF⟩
   ·refine aB rfl hc_20 (bG (ae (vL Beat_.enc l_1) wz rfl ?_))
    obtain ⟨y_21,hy_22,hF⟩:=bind_some hF
    refine dP xH rfl rfl hy_22 rfl wz (p9 tq rfl [.int .i64 y_21.f_to] rfl rfl wz (bO sz3 ag3 rfl (vI y_21.f_to) rfl wz (ae (vL Beat_.enc l_1) wz rfl ?_)))
    obtain ⟨y_23,hy_24,hF⟩:=bind_some hF
    refine dP xH rfl rfl hy_24 rfl wz (p9 qF rfl [.int .i64 y_23.f_from,.int .i64 y_23.f_to] rfl rfl wz (bO sz3 ag3 rfl (vI y_23.f_from) rfl wz (ae (vI n_2) wz rfl (ae (vI (w64 (y_23.f_from-n_2))) wz rfl (ae (vI (w64 (y_21.f_to-(w64 (y_23.f_from-n_2))))) wz rfl (ae (vI (w64 (y_21.f_to-(w64 (y_23.f_from-n_2))))) wz rfl (ak (af (af (aa (ae (vI (w64 (y_21.f_to-(w64 (y_23.f_from-n_2))))) wz rfl ?_)))))))))))
    obtain ⟨r_25,hr_26,hF⟩:=bind_some hF
    refine aD (gN hr_26) rfl CJ rfl rfl rfl rfl wz (ae (vB (!r_25)) wz rfl (ak ?_))
    rcases au hF with⟨hc_27,hF⟩|⟨hc_27,hF⟩
    ·refine aB rfl hc_27 (af (aa (ae (vI 0) wz rfl (ae (vI 11) wz rfl (ak ?_)))))
     obtain rfl:=aj hF
     exact ay (aO (.inr rfl) [(vI 0),(vI 11)] ⟨rfl,⟨rfl,trivial⟩⟩ rfl rfl rfl)
    ·refine aA rfl hc_27 (av (af (aa (ae (vI (w64 (y_21.f_to-(w64 (y_23.f_from-n_2))))) wz rfl (ae (vI (w64 (y_21.f_to-(w64 (y_23.f_from-n_2))))) wz rfl (ae (vI 0) wz rfl (ak ?_)))))))
     obtain rfl:=aj hF
     exact ay (aO (.inr rfl) [(vI (w64 (y_21.f_to-(w64 (y_23.f_from-n_2))))),(vI 0)] ⟨rfl,⟨rfl,trivial⟩⟩ rfl rfl rfl)
   ·refine aA rfl hc_20 (af (aa (ae (vI s_9) wz rfl (ae (vL Beat_.enc l_1) wz rfl (bJ Lt rfl wz (ae (vB (s_9==(l_1.length:Int))) wz rfl (ae (vB (s_9==(l_1.length:Int))) wz rfl (ak ?_))))))))
    rcases au hF with⟨hc_28,hF⟩|⟨hc_28,hF⟩
    ·refine aB rfl hc_28 (bG (ae (vL Beat_.enc l_1) wz rfl (ae (vI s_9) wz rfl (ae (vI (w64 (s_9-1))) wz rfl ?_))))
     obtain ⟨y_29,hy_30,hF⟩:=bind_some hF
     refine dP xH rfl rfl hy_30 rfl wz (p9 tq rfl [.int .i64 y_29.f_to] rfl rfl wz (bO sz3 ag3 rfl (vI y_29.f_to) rfl wz (ae (vI n_2) wz rfl (ae (vI (w64 (y_29.f_to+n_2))) wz rfl (ae (vL Beat_.enc l_1) wz rfl (ae (vI s_9) wz rfl (ae (vI (w64 (s_9-1))) wz rfl ?_)))))))
     obtain ⟨y_31,hy_32,hF⟩:=bind_some hF
     refine dP xH rfl rfl hy_32 rfl wz (p9 qF rfl [.int .i64 y_31.f_from,.int .i64 y_31.f_to] rfl rfl wz (bO sz3 ag3 rfl (vI y_31.f_from) rfl wz (ae (vI (w64 ((w64 (y_29.f_to+n_2))-y_31.f_from))) wz rfl (ae (vI (w64 ((w64 (y_29.f_to+n_2))-y_31.f_from))) wz rfl (ak (af (af (aa (ae (vI (w64 ((w64 (y_29.f_to+n_2))-y_31.f_from))) wz rfl ?_)))))))))
     obtain ⟨r_33,hr_34,hF⟩:=bind_some hF
     refine aD (gN hr_34) rfl CJ rfl rfl rfl rfl wz (ae (vB (!r_33)) wz rfl (ak ?_))
     rcases au hF with⟨hc_35,hF⟩|⟨hc_35,hF⟩
     ·refine aB rfl hc_35 (af (aa (ae (vI 0) wz rfl (ae (vI 11) wz rfl (ak (aM (H0:=([]:Hp)) ([(4,(vI 0)),(5,(vI 11))]:SL_) (by kernel_rfl) (sO (by kernel_rfl)) ?_))))))
      obtain rfl:=aj hF
      exact ay (aO (.inr rfl) [(vI 0),(vI 11)] ⟨rfl,⟨rfl,trivial⟩⟩ rfl rfl rfl)
     ·refine aA rfl hc_35 (av (af (aa (ae (vI (w64 ((w64 (y_29.f_to+n_2))-y_31.f_from))) wz rfl (ae (vI (w64 ((w64 (y_29.f_to+n_2))-y_31.f_from))) wz rfl (ae (vI 0) wz rfl (ak (aM (H0:=([]:Hp)) ([(4,(vI (w64 ((w64 (y_29.f_to+n_2))-y_31.f_from)))),(5,(vI 0))]:SL_) (by kernel_rfl) (sO (by kernel_rfl)) ?_))))))))
      obtain rfl:=aj hF
      exact ay (aO (.inr rfl) [(vI (w64 ((w64 (y_29.f_to+n_2))-y_31.f_from))),(vI 0)] ⟨rfl,⟨rfl,trivial⟩⟩ rfl rfl rfl)
    ·refine aA rfl hc_28 (af (bG (ae (vL Beat_.enc l_1) wz rfl (ae (vI s_9) wz rfl (ae (vI (w64 (s_9-1))) wz rfl ?_)))))
     obtain ⟨y_36,hy_37,hF⟩:=bind_some hF
     refine dP xH rfl rfl hy_37 rfl wz (bO Dk ag254 rfl (.d (.agg (Beat_.enc y_36))) rfl wz (ae (vL Beat_.enc l_1) wz rfl (ae (vI s_9) wz rfl ?_)))
     obtain ⟨y_38,hy_39,hF⟩:=bind_some hF
     refine dP xH rfl rfl hy_39 rfl wz (bO Dk ag254 rfl (.d (.agg (Beat_.enc y_38))) rfl wz (dA 9 (.inr (by kernel_rfl)) z254 rfl wz (λn_40=>dA 10 (.inr (by kernel_rfl)) z254 rfl wz (λn_41=>dX 11 (.inr (by kernel_rfl)) (λ_ _ ag=>⟨.inr (.inr (by kernel_rfl)),⟨.inr (.inr (by kernel_rfl)),trivial⟩⟩) 0 Dk rfl rfl [(vI y_36.f_from),(vI y_36.f_to)] rfl wz (dX 12 (.inr (by kernel_rfl)) (λ_ _ ag=>⟨.inr (.inr (by kernel_rfl)),⟨.inr (.inr (by kernel_rfl)),⟨.inr (.inr (by kernel_rfl)),trivial⟩⟩⟩) 1 Dk rfl rfl [(vI y_38.f_from),(vI y_38.f_to)] rfl wz (ak (af (af ?_))))))))
     obtain ⟨v_42,h_43,hF⟩:=bind_some hF
     refine aH (β:=Unit) (λ_=>([(1,(vI n_2)),(8,(.ref n_40 0 0)),(9,(.ref n_41 0 0)),(50,(vB v_42))]:SL_)) (λ_=>([(n_40,some (.cells 2 [(vI y_36.f_from),(vI y_36.f_to)])),(n_41,some (.cells 2 [(vI y_38.f_from),(vI y_38.f_to)]))]:Hp)) (λ_=>True) ?_ ?_
     ·refine aa (aF qF rfl 0 rfl wz (aC 0 1 il ft sz3 ag3 rfl rfl (vI y_38.f_from) rfl wz (aF qF rfl 0 rfl wz (aC 0 0 il ft sz3 ag3 rfl rfl (vI y_36.f_from) rfl wz (ae (vI (w64 (y_38.f_from-y_36.f_from))) wz rfl (ae (vB (decide ((w64 (y_38.f_from-y_36.f_from))>2592000000))) wz rfl ?_))))))
      rcases au h_43 with⟨hc_44,h_43⟩|⟨hc_44,h_43⟩
      ·refine ax rfl hc_44 wz (ah wa (ah wa (ah wa (ah wa (ah wa (ah wa (ae (vB true) wz rfl (ak ?_))))))))
       obtain rfl:=aj h_43
       exact cu
      ·refine ax rfl hc_44 wz (aF tq rfl 1 rfl wa (aC 0 1 il ft sz3 ag3 rfl rfl (vI y_38.f_to) rfl wa (aF tq rfl 1 rfl wa (aC 0 0 il ft sz3 ag3 rfl rfl (vI y_36.f_to) rfl wa (ae (vI (w64 (y_38.f_to-y_36.f_to))) wa rfl (ae (vB (decide ((w64 (y_38.f_to-y_36.f_to))>2592000000))) wa rfl (ae (vB (decide ((w64 (y_38.f_to-y_36.f_to))>2592000000))) wz rfl (ak ?_))))))))
       obtain rfl:=aj h_43
       exact cu
     ·rintro ⟨⟩ _ sl_ H_ hp_ hq_
      refine aM _ hp_ hq_ ?_
      rcases au hF with⟨hc_45,hF⟩|⟨hc_45,hF⟩
      ·refine aB rfl hc_45 (af (aa (ae (vI 0) wz rfl (ae (vI 2) wz rfl (ak ?_)))))
       obtain rfl:=aj hF
       exact ay (aO (.inr rfl) [(vI 0),(vI 2)] ⟨rfl,⟨rfl,trivial⟩⟩ rfl rfl rfl)
      ·refine aA rfl hc_45 (av (bG (aF tq rfl 1 rfl wz (aC 1 0 (.inr (by kernel_rfl)) (λ_ _ ag=>trivial) sz3 ag3 rfl rfl (vI y_36.f_to) rfl wz (ae (vI n_2) wz rfl (aF qF rfl 0 rfl wz (aC 4 0 (.inr (by kernel_rfl)) (λ_ _ ag=>⟨.inl ⟨rfl,rfl⟩,trivial⟩) sz3 ag3 rfl rfl (vI y_36.f_from) rfl wz (ae (vI (w64 (n_2-y_36.f_from))) wz rfl (aF tq rfl 1 rfl wz (aC 7 1 (.inr (by kernel_rfl)) (λ_ _ ag=>⟨.inl ⟨rfl,rfl⟩,⟨.inl ⟨rfl,rfl⟩,trivial⟩⟩) sz3 ag3 rfl rfl (vI y_38.f_to) rfl wz (aF tq rfl 1 rfl wz (aC 9 0 (.inr (by kernel_rfl)) (λ_ _ ag=>⟨.inl ⟨rfl,rfl⟩,⟨.inl ⟨rfl,rfl⟩,⟨.inl ⟨rfl,rfl⟩,trivial⟩⟩⟩) sz3 ag3 rfl rfl (vI y_36.f_to) rfl wz (ae (vI (w64 (y_38.f_to-y_36.f_to))) wz rfl (ae (vI (w64 ((w64 (n_2-y_36.f_from))*(w64 (y_38.f_to-y_36.f_to))))) wz rfl (aF qF rfl 0 rfl wz (aC 13 1 (.inr (by kernel_rfl)) (λ_ _ ag=>⟨.inl ⟨rfl,rfl⟩,⟨.inl ⟨rfl,rfl⟩,⟨.inl ⟨rfl,rfl⟩,⟨.inl ⟨rfl,rfl⟩,trivial⟩⟩⟩⟩) sz3 ag3 rfl rfl (vI y_38.f_from) rfl wz (aF qF rfl 0 rfl wz (aC 15 0 (.inr (by kernel_rfl)) (λ_ _ ag=>⟨.inl ⟨rfl,rfl⟩,⟨.inl ⟨rfl,rfl⟩,⟨.inl ⟨rfl,rfl⟩,⟨.inl ⟨rfl,rfl⟩,⟨.inl ⟨rfl,rfl⟩,trivial⟩⟩⟩⟩⟩) sz3 ag3 rfl rfl (vI y_36.f_from) rfl wz (ae (vI (w64 (y_38.f_from-y_36.f_from))) wz rfl ?_)))))))))))))))))))
       obtain ⟨q_46,hz_47,hF⟩:=bind_some hF
       refine J5 rfl rfl hz_47 wz (ae (vI (w64 (y_36.f_to+q_46))) wz rfl (ae (vI (w64 (y_36.f_to+q_46))) wz rfl (ak (af (af (aa (ae (vI (w64 (y_36.f_to+q_46))) wz rfl ?_)))))))
       obtain ⟨r_48,hr_49,hF⟩:=bind_some hF
       refine aD (gN hr_49) rfl CJ rfl rfl rfl rfl wz (ae (vB (!r_48)) wz rfl (ak ?_))
       rcases au hF with⟨hc_50,hF⟩|⟨hc_50,hF⟩
       ·refine aB rfl hc_50 (af (aa (ae (vI 0) wz rfl (ae (vI 11) wz rfl (ak ?_)))))
        obtain rfl:=aj hF
        exact ay (aO (.inr rfl) [(vI 0),(vI 11)] ⟨rfl,⟨rfl,trivial⟩⟩ rfl rfl rfl)
       ·refine aA rfl hc_50 (av (af (aa (ae (vI (w64 (y_36.f_to+q_46))) wz rfl (ae (vI (w64 (y_36.f_to+q_46))) wz rfl (ae (vI 0) wz rfl (ak ?_)))))))
        obtain rfl:=aj hF
        exact ay (aO (.inr rfl) [(vI (w64 (y_36.f_to+q_46))),(vI 0)] ⟨rfl,⟨rfl,trivial⟩⟩ rfl rfl rfl)
theorem CG {l_1:(List Beat)} {player_2:ByteArray} {n_3:Int} {back_4:Bool} {r:Int×Int} (hF:nX l_1 player_2 n_3 back_4=some r) :
  FnM Tryz.prog 110 [(vL Beat.enc l_1),(vS player_2),(vI n_3),(vB back_4)] [] (.tup [(vI r.1),(vI r.2)]) []:=by
 refine FnM.of_wH ⟨Tryz.prog,30,[],[]⟩ rfl Tryz.func110 rfl rfl (lb_ rfl) (by kernel_rfl) ?_
 unfold nX at hF
 refine af (aa (ae (vI 0) wz rfl (ae (vI 0) wz rfl (ak (af (af (aa (ae (vL Beat.enc l_1) wz rfl ?_))))))))
 obtain ⟨r_5,hr_6,hF⟩:=bind_some hF
 refine aD (wo hr_6) rfl hb161 rfl rfl rfl rfl wz (ae (vI r_5) wz rfl (ak (af (aa (ae (vI r_5) wz rfl (ae (vB (r_5 != 0)) wz rfl (ak ?_)))))))
 rcases au hF with⟨hc_7,hF⟩|⟨hc_7,hF⟩
 ·refine aB rfl hc_7 (af (aa (ae (vI r_5) wz rfl (ae (vI 0) wz rfl (ae (vI r_5) wz rfl (ak ?_))))))
  obtain rfl:=aj hF
  exact ay (aO (.inr rfl) [(vI 0),(vI r_5)] ⟨rfl,⟨rfl,trivial⟩⟩ rfl rfl rfl)
 ·refine aA rfl hc_7 (av (af (af (aa (ae (vS player_2) wz rfl ?_)))))
  obtain ⟨r_8,hr_9,hF⟩:=bind_some hF
  refine aD (fA hr_9) rfl Bl rfl rfl rfl rfl wz (ae (vB (!r_8)) wz rfl (ak ?_))
  rcases au hF with⟨hc_10,hF⟩|⟨hc_10,hF⟩
  ·refine aB rfl hc_10 (af (aa (ae (vI 0) wz rfl (ae (vI 5) wz rfl (ak ?_)))))
   obtain rfl:=aj hF
   exact ay (aO (.inr rfl) [(vI 0),(vI 5)] ⟨rfl,⟨rfl,trivial⟩⟩ rfl rfl rfl)
  ·refine aA rfl hc_10 (av (af (af (aa (ae (vI n_3) wz rfl ?_)))))
   obtain ⟨r_11,hr_12,hF⟩:=bind_some hF
   refine aD (gN hr_12) rfl CJ rfl rfl rfl rfl wz (ae (vB (!r_11)) wz rfl (ak ?_))
   rcases au hF with⟨hc_13,hF⟩|⟨hc_13,hF⟩
   ·refine aB rfl hc_13 (af (aa (ae (vI 0) wz rfl (ae (vI 1) wz rfl (ak ?_)))))
    obtain rfl:=aj hF
    exact ay (aO (.inr rfl) [(vI 0),(vI 1)] ⟨rfl,⟨rfl,trivial⟩⟩ rfl rfl rfl)
   ·refine aA rfl hc_13 (av (af (aa (ae (vL Beat.enc l_1) wz rfl (ae (vS player_2) wz rfl (ae (vB back_4) wz rfl ?_))))))
    obtain ⟨r_14,hr_15,hF⟩:=bind_some hF
    refine aD (zn hr_15) rfl hb163 rfl rfl rfl rfl wz (ae (vI n_3) wz rfl ?_)
    obtain ⟨r_16,hr_17,hF⟩:=bind_some hF
    refine aD (z8 hr_17) rfl hb162 rfl rfl rfl rfl wz (ae (vI r_16.1) wz rfl (ae (vI r_16.2) wz rfl (ae (vI r_16.1) wz rfl (ae (vI r_16.2) wz rfl (ak ?_)))))
    obtain rfl:=aj hF
    exact ay (aO (.inr rfl) [(vI r_16.1),(vI r_16.2)] ⟨rfl,⟨rfl,trivial⟩⟩ rfl rfl rfl)
theorem Ck {l_1:(List Beat)} {player_2:ByteArray} {clock_3:Int} {r:Int×Int} (hF:og l_1 player_2 clock_3=some r) :
  FnM Tryz.prog 68 [(vL Beat.enc l_1),(vS player_2),(vI clock_3)] [] (.tup [(vI r.1),(vI r.2)]) []:=by
 refine FnM.of_wH ⟨Tryz.prog,14,[],[]⟩ rfl Tryz.func68 rfl rfl (lb_ rfl) (by kernel_rfl) ?_
 unfold og at hF
 refine af (aa (ae (vI 0) wz rfl (ae (vI 0) wz rfl (ak (af (aa (ae (vL Beat.enc l_1) wz rfl (ae (vS player_2) wz rfl (ae (vI clock_3) wz rfl ?_)))))))))
 obtain ⟨r_4,hr_5,hF⟩:=bind_some hF
 refine aD (CG hr_5) rfl hb110 rfl rfl rfl rfl wz (ae (vI r_4.1) wz rfl (ae (vI r_4.2) wz rfl (ae (vI r_4.1) wz rfl (ae (vI r_4.2) wz rfl (ak ?_)))))
 obtain rfl:=aj hF
 exact ay (aO (.inr rfl) [(vI r_4.1),(vI r_4.2)] ⟨rfl,⟨rfl,trivial⟩⟩ rfl rfl rfl)
theorem xg {a_1:Alert} {r:Int} (hF:jE a_1=some r) :
  FnM Tryz.prog 251 [(.d (.agg (Alert.enc a_1)))] [] (vI r) []:=by
 refine FnM.of_wH ⟨Tryz.prog,48,[],[]⟩ rfl Tryz.func251 rfl rfl (lb_ rfl) (by kernel_rfl) ?_
 unfold jE at hF
 refine af (aa (gH 0 (.inl rfl) [(vS a_1.Id),(vS a_1.Sender),(vI a_1.Kind),(vL eS a_1.Refs),(vI a_1.At),(vI a_1.Until),(vI a_1.Weight),(vL Rect.enc a_1.Areas),(vS a_1.Text)] rfl rfl wz (λn_2=>ae (vI 0) wz rfl (ak (af (af (aa (aF Ao rfl 3 rfl wz (aC 0 0 il ft uX yK rfl rfl (vL eS a_1.Refs) rfl wz (bJ xc rfl wz (ae (vB (decide ((a_1.Refs.length:Int)>20))) wz rfl (ak ?_))))))))))))
 rcases au hF with⟨hc_3,hF⟩|⟨hc_3,hF⟩
 ·refine aB rfl hc_3 (af (aa (ae (vI 2) wz rfl (ak ?_))))
  obtain rfl:=aj hF
  exact ay (aO (.inr rfl) [(vI 2)] ⟨rfl,trivial⟩ rfl rfl rfl)
 ·refine aA rfl hc_3 (av (af (af (aa (aF Ao rfl 3 rfl wz (aC 0 0 il ft uX yK rfl rfl (vL eS a_1.Refs) rfl wz (bJ xc rfl wz (ae (vI 0) wz rfl (ak ?_)))))))))
  obtain ⟨o_12,hj_13,hF⟩:=bind_some hF
  obtain ⟨hn_8,hj_13⟩:=bg hj_13
  refine aH (β:=(Unit)) (λ(s_9:Unit)=>([(1,(.ref n_2 0 0))]:SL_)) (λ(s_9:Unit)=>([(n_2,some (.cells 9 [(vS a_1.Id),(vS a_1.Sender),(vI a_1.Kind),(vL eS a_1.Refs),(vI a_1.At),(vI a_1.Until),(vI a_1.Weight),(vL Rect.enc a_1.Areas),(vS a_1.Text)]))]:Hp)) (λp=>o_12 = .go p) ?_ ?_
  ·refine aG (bv (β:=Nat×(List ByteArray)×(Unit)) (λp=>(λ(k_4:Nat) (l_5:List ByteArray) (s_9:Unit)=>([(1,(.ref n_2 0 0)),(10,(vL eS a_1.Refs)),(11,(vI (a_1.Refs.length:Int))),(12,(vI (k_4:Int)))]:SL_)) p.1 p.2.1 p.2.2) (λp=>(λ(k_4:Nat) (l_5:List ByteArray) (s_9:Unit)=>([(n_2,some (.cells 9 [(vS a_1.Id),(vS a_1.Sender),(vI a_1.Kind),(vL eS a_1.Refs),(vI a_1.At),(vI a_1.Until),(vI a_1.Weight),(vL Rect.enc a_1.Areas),(vS a_1.Text)]))]:Hp)) p.1 p.2.1 p.2.2) (λp=>forR (λk x s=>ig a_1 k x s) p.2.1 p.1 p.2.2=some o_12/\(a_1.Refs).drop p.1=p.2.1) (λp=>p.2.1.length) (0,a_1.Refs,()) ⟨hj_13,rfl⟩ rfl (aK rfl) ?_)
   rintro ⟨k_4,l_5,s_9⟩ ⟨hL_11,hD_7⟩
   dsimp only at hL_11 hD_7
   cases l_5 with
   | nil =>
    obtain rfl:=aj hL_11
    refine af (aa (ae (vB (decide ((k_4:Int)<(a_1.Refs.length:Int)))) wz rfl (ak ?_)))
    refine af (aA rfl (drop_nil hD_7) (aX ?_))
    exact aS (s_9) rfl rfl (aK rfl)
   | cons x_6 l_5 =>
    obtain ⟨c_,hc_10,hL_11⟩:=bind_some hL_11
    refine af (aa (ae (vB (decide ((k_4:Int)<(a_1.Refs.length:Int)))) wz rfl (ak ?_)))
    refine af (aB rfl (bz hD_7) (av ?_))
    unfold ig at hc_10
    refine af (aG (af (aa (ae (vI (k_4:Int)) wz rfl (dP uw rfl rfl (bE hD_7) rfl wz (bO sz9 ag9 rfl (vS x_6) rfl wz (ae (vI (k_4:Int)) wz rfl (ae (vS x_6) wz rfl (ak (aG (af (aa (ae (vS x_6) wz rfl ?_)))))))))))))
    obtain ⟨r_14,hr_15,hc_10⟩:=bind_some hc_10
    refine aD (fA hr_15) rfl Bl rfl rfl rfl rfl wz (ae (vB (!r_14)) wz rfl (ae (vB (!r_14)) wz rfl (ak ?_)))
    rcases au hc_10 with⟨hc_16,hc_10⟩|⟨hc_16,hc_10⟩
    ·refine aB rfl hc_16 (af (aa (ae (vI 5) wz rfl (ak ?_))))
     obtain rfl:=aj hc_10
     obtain rfl:=aj hL_11
     obtain rfl:=aj hF
     exact ay (aO (.inr rfl) [(vI 5)] ⟨rfl,trivial⟩ rfl rfl rfl)
    ·refine aA rfl hc_16 (af ?_)
     obtain ⟨v_17,h_18,hc_10⟩:=bind_some hc_10
     refine aH (β:=Unit) (λ_=>([(1,(.ref n_2 0 0)),(4,(vS x_6)),(10,(vL eS a_1.Refs)),(11,(vI (a_1.Refs.length:Int))),(12,(vI (k_4:Int))),(21,(vB v_17))]:SL_)) (λ_=>([(n_2,some (.cells 9 [(vS a_1.Id),(vS a_1.Sender),(vI a_1.Kind),(vL eS a_1.Refs),(vI a_1.At),(vI a_1.Until),(vI a_1.Weight),(vL Rect.enc a_1.Areas),(vS a_1.Text)]))]:Hp)) (λ_=>True) ?_ ?_
     ·refine aa (ae (vI (k_4:Int)) wz rfl (ae (vB (decide ((k_4:Int)>0))) wz rfl ?_))
      rcases au h_18 with⟨hc_19,h_18⟩|⟨hc_19,h_18⟩
      ·refine ax rfl hc_19 wz (ae (vS x_6) wa rfl (aF Ao rfl 3 rfl wa (aC 0 0 il ft uX yK rfl rfl (vL eS a_1.Refs) rfl wa (ae (vI (k_4:Int)) wa rfl (ae (vI (w64 ((k_4:Int)-1))) wa rfl ?_)))))
       obtain ⟨y_20,hy_21,h_18⟩:=bind_some h_18
       refine dP uw rfl rfl hy_21 rfl wa (bO sz9 ag9 rfl (vS y_20) rfl wa (ae (vB (sLe x_6 y_20)) wa rfl (ae (vB (sLe x_6 y_20)) wz rfl (ae (vB (sLe x_6 y_20)) wz rfl (ak ?_)))))
       obtain rfl:=aj h_18
       exact cu
      ·refine ax rfl hc_19 wz (ah wa (ah wa (ah wa (ah wa (ah wa (ah wa (ah wa (ah wa (ae (vB false) wz rfl (ae (vB false) wz rfl (ak ?_)))))))))))
       obtain rfl:=aj h_18
       exact cu
     ·rintro ⟨⟩ _ sl_ H_ hp_ hq_
      refine aM _ hp_ hq_ ?_
      rcases au hc_10 with⟨hc_22,hc_10⟩|⟨hc_22,hc_10⟩
      ·refine aB rfl hc_22 (af (aa (ae (vI 7) wz rfl (ak ?_))))
       obtain rfl:=aj hc_10
       obtain rfl:=aj hL_11
       obtain rfl:=aj hF
       exact ay (aO (.inr rfl) [(vI 7)] ⟨rfl,trivial⟩ rfl rfl rfl)
      ·refine aA rfl hc_22 (af (aa (ae (vS x_6) wz rfl (aF vK rfl 0 rfl wz (aC 0 0 il ft sz9 ag9 rfl rfl (vS a_1.Id) rfl wz (ae (vB (sEq x_6 a_1.Id)) wz rfl (ae (vB (sEq x_6 a_1.Id)) wz rfl (ak ?_))))))))
       rcases au hc_10 with⟨hc_23,hc_10⟩|⟨hc_23,hc_10⟩
       ·refine aB rfl hc_23 (af (aa (ae (vI 14) wz rfl (ak ?_))))
        obtain rfl:=aj hc_10
        obtain rfl:=aj hL_11
        obtain rfl:=aj hF
        exact ay (aO (.inr rfl) [(vI 14)] ⟨rfl,trivial⟩ rfl rfl rfl)
       ·refine aA rfl hc_23 (av (aa (eQ (bB hD_7 hn_8) wz rfl (ae (vI ((k_4+1:Nat):Int)) wz rfl (ak ?_)))))
        obtain rfl:=aj hc_10
        exact aY (k_4+1,l_5,()) ⟨hL_11,aR hD_7⟩ (ls_ _) rfl (aK rfl)
  ·rintro s_9 ho_ sl_ H_ hp_ hq_
   subst ho_
   refine aM _ hp_ hq_ (af (af (aa (aF EC rfl 2 rfl wz (aC 0 0 il ft sz3 ag3 rfl rfl (vI a_1.Kind) rfl wz (ae (vB (a_1.Kind==1)) wz rfl (aF Ao rfl 3 rfl wz (aC 0 0 il ft uX yK rfl rfl (vL eS a_1.Refs) rfl wz (bJ xc rfl wz (ae (vB ((a_1.Refs.length:Int)==0)) wz rfl (Kb un4 rfl rfl wz (ak ?_))))))))))))
   rcases au hF with⟨hc_24,hF⟩|⟨hc_24,hF⟩
   ·refine aB rfl hc_24 (af (aa (ae (vI 3) wz rfl (ak ?_))))
    obtain rfl:=aj hF
    exact ay (aO (.inr rfl) [(vI 3)] ⟨rfl,trivial⟩ rfl rfl rfl)
   ·refine aA rfl hc_24 (av (af (aa (ae (vI 0) wz rfl (ak ?_)))))
    obtain rfl:=aj hF
    exact ay (aO (.inr rfl) [(vI 0)] ⟨rfl,trivial⟩ rfl rfl rfl)
theorem bR {s_1:ByteArray} {r:Int} (hF:bn s_1=some r) :
  FnM Tryz.prog 283 [(vS s_1)] [] (.d (.int .u64 r)) []:=by
 refine FnM.of_wH ⟨Tryz.prog,59,[],[]⟩ rfl Tryz.func283 rfl rfl (lb_ rfl) (by kernel_rfl) ?_
 unfold bn at hF
 refine af (aa (ae (.d (.int .u64 0)) wz rfl (ak (af (aA rfl rfl (av (af (bG (ae (vS s_1) wz rfl ?_)))))))))
 obtain ⟨b_2,hy_3,hF⟩:=bind_some hF
 refine jm un9 rfl rfl hy_3 wz (nk un5 xP rfl wz (ae (vS s_1) wz rfl ?_))
 obtain ⟨b_4,hy_5,hF⟩:=bind_some hF
 refine jm un9 rfl rfl hy_5 wz (nk un5 xP rfl wz ?_)
 obtain ⟨q_6,hz_7,hF⟩:=bind_some hF
 refine zV rfl rfl hz_7 wz (ae (.d (.int .u64 (orI .u64 (IntKind.u64.wrap (b_2.toNat:Int)) q_6))) wz rfl (ae (vS s_1) wz rfl ?_))
 obtain ⟨b_8,hy_9,hF⟩:=bind_some hF
 refine jm un9 rfl rfl hy_9 wz (nk un5 xP rfl wz ?_)
 obtain ⟨q_10,hz_11,hF⟩:=bind_some hF
 refine zV rfl rfl hz_11 wz (ae (.d (.int .u64 (orI .u64 (orI .u64 (IntKind.u64.wrap (b_2.toNat:Int)) q_6) q_10))) wz rfl (ae (vS s_1) wz rfl ?_))
 obtain ⟨b_12,hy_13,hF⟩:=bind_some hF
 refine jm un9 rfl rfl hy_13 wz (nk un5 xP rfl wz ?_)
 obtain ⟨q_14,hz_15,hF⟩:=bind_some hF
 refine zV rfl rfl hz_15 wz (ae (.d (.int .u64 (orI .u64 (orI .u64 (orI .u64 (IntKind.u64.wrap (b_2.toNat:Int)) q_6) q_10) q_14))) wz rfl (ae (vS s_1) wz rfl ?_))
 obtain ⟨b_16,hy_17,hF⟩:=bind_some hF
 refine jm un9 rfl rfl hy_17 wz (nk un5 xP rfl wz ?_)
 obtain ⟨q_18,hz_19,hF⟩:=bind_some hF
 refine zV rfl rfl hz_19 wz (ae (.d (.int .u64 (orI .u64 (orI .u64 (orI .u64 (orI .u64 (IntKind.u64.wrap (b_2.toNat:Int)) q_6) q_10) q_14) q_18))) wz rfl (ae (vS s_1) wz rfl ?_))
 obtain ⟨b_20,hy_21,hF⟩:=bind_some hF
 refine jm un9 rfl rfl hy_21 wz (nk un5 xP rfl wz ?_)
 obtain ⟨q_22,hz_23,hF⟩:=bind_some hF
 refine zV rfl rfl hz_23 wz (ae (.d (.int .u64 (orI .u64 (orI .u64 (orI .u64 (orI .u64 (orI .u64 (IntKind.u64.wrap (b_2.toNat:Int)) q_6) q_10) q_14) q_18) q_22))) wz rfl (ae (vS s_1) wz rfl ?_))
 obtain ⟨b_24,hy_25,hF⟩:=bind_some hF
 refine jm un9 rfl rfl hy_25 wz (nk un5 xP rfl wz ?_)
 obtain ⟨q_26,hz_27,hF⟩:=bind_some hF
 refine zV rfl rfl hz_27 wz (ae (.d (.int .u64 (orI .u64 (orI .u64 (orI .u64 (orI .u64 (orI .u64 (orI .u64 (IntKind.u64.wrap (b_2.toNat:Int)) q_6) q_10) q_14) q_18) q_22) q_26))) wz rfl (ae (vS s_1) wz rfl ?_))
 obtain ⟨b_28,hy_29,hF⟩:=bind_some hF
 refine jm un9 rfl rfl hy_29 wz (nk un5 xP rfl wz ?_)
 obtain ⟨q_30,hz_31,hF⟩:=bind_some hF
 refine zV rfl rfl hz_31 wz (ae (.d (.int .u64 (orI .u64 (orI .u64 (orI .u64 (orI .u64 (orI .u64 (orI .u64 (orI .u64 (IntKind.u64.wrap (b_2.toNat:Int)) q_6) q_10) q_14) q_18) q_22) q_26) q_30))) wz rfl (ae (.d (.int .u64 (orI .u64 (orI .u64 (orI .u64 (orI .u64 (orI .u64 (orI .u64 (orI .u64 (IntKind.u64.wrap (b_2.toNat:Int)) q_6) q_10) q_14) q_18) q_22) q_26) q_30))) wz rfl (ak (aM (H0:=([]:Hp)) ([(2,(.d (.int .u64 (orI .u64 (orI .u64 (orI .u64 (orI .u64 (orI .u64 (orI .u64 (orI .u64 (IntKind.u64.wrap (b_2.toNat:Int)) q_6) q_10) q_14) q_18) q_22) q_26) q_30))))]:SL_) (by kernel_rfl) (sO (by kernel_rfl)) ?_))))
 obtain rfl:=aj hF
 exact ay (aO (.inr rfl) [(.d (.int .u64 (orI .u64 (orI .u64 (orI .u64 (orI .u64 (orI .u64 (orI .u64 (orI .u64 (IntKind.u64.wrap (b_2.toNat:Int)) q_6) q_10) q_14) q_18) q_22) q_26) q_30)))] ⟨rfl,trivial⟩ rfl rfl rfl)
theorem o9 {s_1:ByteArray} {r:Bool} (hF:eH s_1=some r) :
  FnM Tryz.prog 273 [(vS s_1)] [] (vB r) []:=by
 refine FnM.of_wH ⟨Tryz.prog,169,[],[]⟩ rfl Tryz.func273 rfl rfl (lb_ rfl) (by kernel_rfl) ?_
 unfold eH at hF
 refine af (aa (ae (vB false) wz rfl (ak (af ?_))))
 obtain ⟨o_10,hj_11,hF⟩:=bind_some hF
 obtain ⟨nq_71,hj_11⟩:=d9 hj_11
 refine aH (β:=(ByteArray)) (λ(s_7:ByteArray)=>([]:SL_)) (λ(s_7:ByteArray)=>([]:Hp)) (λp=>o_10 = .go p) ?_ ?_
 ·refine aG (bv (β:=Nat×(ByteArray)) (λp=>(λ(k_2:Nat) (s_7:ByteArray)=>([(0,(vS s_7))]:SL_)) p.1 p.2) (λp=>(λ(k_2:Nat) (s_7:ByteArray)=>([]:Hp)) p.1 p.2) (λp=>iterN (λs=>dE s) p.1 p.2=some o_10) (λp=>p.1) (nq_71,s_1) hj_11 rfl (aK rfl) ?_)
  rintro ⟨k_2,s_7⟩ hL_9
  dsimp only at hL_9
  cases k_2 with
  | zero=>cases hL_9
  | succ k_2 =>
   obtain ⟨c_,hc_8,hL_9⟩:=bind_some hL_9
   unfold dE at hc_8
   refine af (af (aa (ae (vS s_7) wz rfl (lL un9 rfl wz (ae (vB (decide ((s_7.size:Int)>0))) wz rfl (ak ?_))))))
   rcases au hc_8 with⟨hc_12,hc_8⟩|⟨hc_12,hc_8⟩
   ·refine aB rfl hc_12 (av (aG (af (aa (ae (vS s_7) wz rfl ?_)))))
    obtain ⟨b_13,hy_14,hc_8⟩:=bind_some hc_8
    refine jm un9 rfl rfl hy_14 wz (ae (.d (.int .u8 (b_13.toNat:Int))) wz rfl (ak (af (af (aa (ae (.d (.int .u8 (b_13.toNat:Int))) wz rfl (ae (vB (decide ((b_13.toNat:Int)<128))) wz rfl (ak ?_))))))))
    rcases au hc_8 with⟨hc_15,hc_8⟩|⟨hc_15,hc_8⟩
    ·refine aB rfl hc_15 (af (aa (ae (vS s_7) wz rfl ?_)))
     obtain ⟨y_16,hy_17,hc_8⟩:=bind_some hc_8
     refine fH un9 rfl rfl hy_17 wz (ae (vS y_16) wz rfl (ak (af (af ?_))))
     obtain ⟨v_18,h_19,hc_8⟩:=bind_some hc_8
     refine aH (β:=Unit) (λ_=>([(0,(vS y_16)),(24,(vB v_18))]:SL_)) (λ_=>([]:Hp)) (λ_=>True) ?_ ?_
     ·refine aa (ae (vS y_16) wz rfl (lL un9 rfl wz (ae (vB (decide ((y_16.size:Int)>8))) wz rfl ?_)))
      rcases au h_19 with⟨hc_20,h_19⟩|⟨hc_20,h_19⟩
      ·refine ax rfl hc_20 wz (ae (vS y_16) wa rfl ?_)
       obtain ⟨r_21,hr_22,h_19⟩:=bind_some h_19
       refine aD (bR hr_22) rfl Cu rfl rfl rfl rfl wa (ae (.d (.int .u64 (tu .u64 r_21 9259542123273814144))) wa rfl (ae (vB ((tu .u64 r_21 9259542123273814144)==0)) wa rfl (ae (vB ((tu .u64 r_21 9259542123273814144)==0)) wz rfl (ak ?_))))
       obtain rfl:=aj h_19
       exact cu
      ·refine ax rfl hc_20 wz (ah wa (ah wa (ah wa (ah wa (ae (vB false) wz rfl (ak ?_))))))
       obtain rfl:=aj h_19
       exact cu
     ·rintro ⟨⟩ _ sl_ H_ hp_ hq_
      refine aM _ hp_ hq_ ?_
      obtain ⟨v_23,h_24,hc_8⟩:=bind_some hc_8
      refine aH (β:=Unit) (λ_=>([(0,(vS v_23))]:SL_)) (λ_=>([]:Hp)) (λ_=>True) ?_ ?_
      ·rcases au h_24 with⟨hc_25,h_24⟩|⟨hc_25,h_24⟩
       ·refine aB rfl hc_25 (af (aa (ae (vS y_16) wz rfl ?_)))
        obtain ⟨y_26,hy_27,h_24⟩:=bind_some h_24
        refine fH un9 rfl rfl hy_27 wz (ae (vS y_26) wz rfl (ak (af ?_)))
        obtain ⟨v_28,h_29,h_24⟩:=bind_some h_24
        refine aH (β:=Unit) (λ_=>([(0,(vS y_26)),(39,(vB v_28))]:SL_)) (λ_=>([]:Hp)) (λ_=>True) ?_ ?_
        ·refine bG (ae (vS y_26) wz rfl (lL un9 rfl wz (ae (vB (decide ((y_26.size:Int)>16))) wz rfl ?_)))
         rcases au h_29 with⟨hc_30,h_29⟩|⟨hc_30,h_29⟩
         ·refine ax rfl hc_30 wz (ae (vS y_26) wa rfl ?_)
          obtain ⟨r_31,hr_32,h_29⟩:=bind_some h_29
          refine aD (bR hr_32) rfl Cu rfl rfl rfl rfl wa (ae (vS y_26) wa rfl ?_)
          obtain ⟨y_33,hy_34,h_29⟩:=bind_some h_29
          refine fH un9 rfl rfl hy_34 wa ?_
          obtain ⟨r_35,hr_36,h_29⟩:=bind_some h_29
          refine aD (bR hr_36) rfl Cu rfl rfl rfl rfl wa (ae (.d (.int .u64 (orI .u64 r_31 r_35))) wa rfl (ae (.d (.int .u64 (tu .u64 (orI .u64 r_31 r_35) 9259542123273814144))) wa rfl (ae (vB ((tu .u64 (orI .u64 r_31 r_35) 9259542123273814144)==0)) wa rfl (ae (vB ((tu .u64 (orI .u64 r_31 r_35) 9259542123273814144)==0)) wz rfl (ak ?_)))))
          obtain rfl:=aj h_29
          exact cu
         ·refine ax rfl hc_30 wz (ah wa (ah wa (ah wa (ah wa (ah wa (ah wa (ah wa (ah wa (ae (vB false) wz rfl (ak ?_))))))))))
          obtain rfl:=aj h_29
          exact cu
        ·rintro ⟨⟩ _ sl_ H_ hp_ hq_
         refine aM _ hp_ hq_ ?_
         rcases au h_24 with⟨hc_37,h_24⟩|⟨hc_37,h_24⟩
         ·refine aB rfl hc_37 (af (aa (ae (vS y_26) wz rfl ?_)))
          obtain ⟨y_38,hy_39,h_24⟩:=bind_some h_24
          refine fH un9 rfl rfl hy_39 wz (ae (vS y_38) wz rfl (ak ?_))
          obtain ⟨o_48,hj_49,h_24⟩:=bind_some h_24
          obtain ⟨nq_70,hj_49⟩:=d9 hj_49
          refine aH (β:=(ByteArray)) (λ(s_45:ByteArray)=>([(0,(vS s_45))]:SL_)) (λ(s_45:ByteArray)=>([]:Hp)) (λp=>o_48 = .go p) ?_ ?_
          ·refine aG (bv (β:=Nat×(ByteArray)) (λp=>(λ(k_40:Nat) (s_45:ByteArray)=>([(0,(vS s_45))]:SL_)) p.1 p.2) (λp=>(λ(k_40:Nat) (s_45:ByteArray)=>([]:Hp)) p.1 p.2) (λp=>iterN (λs=>fu s) p.1 p.2=some o_48) (λp=>p.1) (nq_70,y_38) hj_49 rfl (aK rfl) ?_)
           rintro ⟨k_40,s_45⟩ hL_47
           dsimp only at hL_47
           cases k_40 with
           | zero=>cases hL_47
           | succ k_40 =>
            obtain ⟨c_,hc_46,hL_47⟩:=bind_some hL_47
            unfold fu at hc_46
            refine af (af ?_)
            obtain ⟨v_50,h_51,hc_46⟩:=bind_some hc_46
            refine aH (β:=Unit) (λ_=>([(0,(vS s_45)),(62,(vB v_50))]:SL_)) (λ_=>([]:Hp)) (λ_=>True) ?_ ?_
            ·refine bG (ae (vS s_45) wz rfl (lL un9 rfl wz (ae (vB (decide ((s_45.size:Int)>32))) wz rfl ?_)))
             rcases au h_51 with⟨hc_52,h_51⟩|⟨hc_52,h_51⟩
             ·refine ax rfl hc_52 wz (ae (vS s_45) wa rfl ?_)
              obtain ⟨r_53,hr_54,h_51⟩:=bind_some h_51
              refine aD (bR hr_54) rfl Cu rfl rfl rfl rfl wa (ae (vS s_45) wa rfl ?_)
              obtain ⟨y_55,hy_56,h_51⟩:=bind_some h_51
              refine fH un9 rfl rfl hy_56 wa ?_
              obtain ⟨r_57,hr_58,h_51⟩:=bind_some h_51
              refine aD (bR hr_58) rfl Cu rfl rfl rfl rfl wa (ae (.d (.int .u64 (orI .u64 r_53 r_57))) wa rfl (ae (vS s_45) wa rfl ?_))
              obtain ⟨y_59,hy_60,h_51⟩:=bind_some h_51
              refine fH un9 rfl rfl hy_60 wa ?_
              obtain ⟨r_61,hr_62,h_51⟩:=bind_some h_51
              refine aD (bR hr_62) rfl Cu rfl rfl rfl rfl wa (ae (vS s_45) wa rfl ?_)
              obtain ⟨y_63,hy_64,h_51⟩:=bind_some h_51
              refine fH un9 rfl rfl hy_64 wa ?_
              obtain ⟨r_65,hr_66,h_51⟩:=bind_some h_51
              refine aD (bR hr_66) rfl Cu rfl rfl rfl rfl wa (ae (.d (.int .u64 (orI .u64 r_61 r_65))) wa rfl (ae (.d (.int .u64 (orI .u64 (orI .u64 r_53 r_57) (orI .u64 r_61 r_65)))) wa rfl (ae (.d (.int .u64 (tu .u64 (orI .u64 (orI .u64 r_53 r_57) (orI .u64 r_61 r_65)) 9259542123273814144))) wa rfl (ae (vB ((tu .u64 (orI .u64 (orI .u64 r_53 r_57) (orI .u64 r_61 r_65)) 9259542123273814144)==0)) wa rfl (ae (vB ((tu .u64 (orI .u64 (orI .u64 r_53 r_57) (orI .u64 r_61 r_65)) 9259542123273814144)==0)) wz rfl (ak ?_))))))
              obtain rfl:=aj h_51
              exact cu
             ·refine ax rfl hc_52 wz (ah wa (ah wa (ah wa (ah wa (ah wa (ah wa (ah wa (ah wa (ah wa (ah wa (ah wa (ah wa (ah wa (ah wa (ah wa (ah wa (ae (vB false) wz rfl (ak ?_))))))))))))))))))
              obtain rfl:=aj h_51
              exact cu
            ·rintro ⟨⟩ _ sl_ H_ hp_ hq_
             refine aM _ hp_ hq_ ?_
             rcases au hc_46 with⟨hc_67,hc_46⟩|⟨hc_67,hc_46⟩
             ·refine aB rfl hc_67 (av (aG (aa (ae (vS s_45) wz rfl ?_))))
              obtain ⟨y_68,hy_69,hc_46⟩:=bind_some hc_46
              refine fH un9 rfl rfl hy_69 wz (ae (vS y_68) wz rfl (ak ?_))
              obtain rfl:=aj hc_46
              exact aY (k_40,y_68) hL_47 (ls_ _) rfl (aK rfl)
             ·refine aA rfl hc_67 (aX ?_)
              obtain rfl:=aj hc_46
              obtain rfl:=aj hL_47
              exact aS (s_45) rfl rfl (aK rfl)
          ·rintro s_45 ho_ sl_ H_ hp_ hq_
           subst ho_
           obtain rfl:=aj h_24
           exact aS () trivial (pick_at [0] hp_ rfl) (pre_at hq_ (aK rfl))
         ·refine aA rfl hc_37 (av ?_)
          obtain rfl:=aj h_24
          exact cu
       ·refine aA rfl hc_25 (av ?_)
        obtain rfl:=aj h_24
        exact cu
      ·rintro ⟨⟩ _ sl_ H_ hp_ hq_
       refine aM _ hp_ hq_ (aX ?_)
       obtain rfl:=aj hc_8
       exact aY (k_2,v_23) hL_9 (ls_ _) rfl (aK rfl)
    ·refine aA rfl hc_15 (av (af (aa (ae (.d (.int .u8 (b_13.toNat:Int))) wz rfl ?_))))
     cases hc_8
   ·refine aA rfl hc_12 (aX ?_)
    obtain rfl:=aj hc_8
    obtain rfl:=aj hL_9
    exact aS (s_7) rfl rfl (aK rfl)
 ·rintro s_7 ho_ sl_ H_ hp_ hq_
  subst ho_
  refine aM _ hp_ hq_ (af (aa (ae (vB true) wz rfl (ak ?_))))
  obtain rfl:=aj hF
  exact ay (aO (.inr rfl) [(vB true)] ⟨rfl,trivial⟩ rfl rfl rfl)
theorem qU {s_1:ByteArray} {c_2:Int} {r:ByteArray} (hF:strings_trimRightByte s_1 c_2=some r) :
  FnM Tryz.prog 285 [(vS s_1),(.d (.int .u8 c_2))] [] (vS r) []:=by
 refine FnM.of_wH ⟨Tryz.prog,23,[],[]⟩ rfl Tryz.func285 rfl rfl (lb_ rfl) (by kernel_rfl) ?_
 unfold strings_trimRightByte at hF
 refine af (aa (ae (vS (⟨#[]⟩:ByteArray)) wz rfl (ak (af ?_))))
 obtain ⟨o_11,hj_12,hF⟩:=bind_some hF
 obtain ⟨nq_21,hj_12⟩:=d9 hj_12
 refine aH (β:=(ByteArray)) (λ(s_8:ByteArray)=>([(0,(vS s_8))]:SL_)) (λ(s_8:ByteArray)=>([]:Hp)) (λp=>o_11 = .go p) ?_ ?_
 ·refine aG (bv (β:=Nat×(ByteArray)) (λp=>(λ(k_3:Nat) (s_8:ByteArray)=>([(0,(vS s_8)),(1,(.d (.int .u8 c_2)))]:SL_)) p.1 p.2) (λp=>(λ(k_3:Nat) (s_8:ByteArray)=>([]:Hp)) p.1 p.2) (λp=>iterN (λs=>gm c_2 s) p.1 p.2=some o_11) (λp=>p.1) (nq_21,s_1) hj_12 rfl (aK rfl) ?_)
  rintro ⟨k_3,s_8⟩ hL_10
  dsimp only at hL_10
  cases k_3 with
  | zero=>cases hL_10
  | succ k_3 =>
   obtain ⟨c_,hc_9,hL_10⟩:=bind_some hL_10
   unfold gm at hc_9
   refine af (af ?_)
   obtain ⟨v_13,h_14,hc_9⟩:=bind_some hc_9
   refine aH (β:=Unit) (λ_=>([(0,(vS s_8)),(1,(.d (.int .u8 c_2))),(16,(vB v_13))]:SL_)) (λ_=>([]:Hp)) (λ_=>True) ?_ ?_
   ·refine aa (ae (vS s_8) wz rfl (lL un9 rfl wz (ae (vB (decide ((s_8.size:Int)>0))) wz rfl ?_)))
    rcases au h_14 with⟨hc_15,h_14⟩|⟨hc_15,h_14⟩
    ·refine ax rfl hc_15 wz (ae (vS s_8) wa rfl (ae (vS s_8) wa rfl (lL un9 rfl wa (ae (vI (w64 ((s_8.size:Int)-1))) wa rfl ?_))))
     obtain ⟨b_16,hy_17,h_14⟩:=bind_some h_14
     refine jm un9 rfl rfl hy_17 wa (ae (.d (.int .u8 c_2)) wa rfl (ae (vB ((b_16.toNat:Int)==c_2)) wa rfl (ae (vB ((b_16.toNat:Int)==c_2)) wz rfl (ak ?_))))
     obtain rfl:=aj h_14
     exact cu
    ·refine ax rfl hc_15 wz (ah wa (ah wa (ah wa (ah wa (ah wa (ah wa (ah wa (ae (vB false) wz rfl (ak ?_)))))))))
     obtain rfl:=aj h_14
     exact cu
   ·rintro ⟨⟩ _ sl_ H_ hp_ hq_
    refine aM _ hp_ hq_ ?_
    rcases au hc_9 with⟨hc_18,hc_9⟩|⟨hc_18,hc_9⟩
    ·refine aB rfl hc_18 (av (aG (aa (ae (vS s_8) wz rfl (ae (vS s_8) wz rfl (lL un9 rfl wz (ae (vI (w64 ((s_8.size:Int)-1))) wz rfl ?_)))))))
     obtain ⟨y_19,hy_20,hc_9⟩:=bind_some hc_9
     refine BF un9 rfl rfl hy_20 wz (ae (vS y_19) wz rfl (ak ?_))
     obtain rfl:=aj hc_9
     exact aY (k_3,y_19) hL_10 (ls_ _) rfl (aK rfl)
    ·refine aA rfl hc_18 (aX ?_)
     obtain rfl:=aj hc_9
     obtain rfl:=aj hL_10
     exact aS (s_8) rfl rfl (aK rfl)
 ·rintro s_8 ho_ sl_ H_ hp_ hq_
  subst ho_
  refine aM _ hp_ hq_ (af (aa (ae (vS s_8) wz rfl (ae (vS s_8) wz rfl (ak ?_)))))
  obtain rfl:=aj hF
  exact ay (aO (.inr rfl) [(vS s_8)] ⟨rfl,trivial⟩ rfl rfl rfl)
theorem sj {s_1:ByteArray} {c_2:Int} {r:ByteArray} (hF:strings_trimLeftByte s_1 c_2=some r) :
  FnM Tryz.prog 284 [(vS s_1),(.d (.int .u8 c_2))] [] (vS r) []:=by
 refine FnM.of_wH ⟨Tryz.prog,17,[],[]⟩ rfl Tryz.func284 rfl rfl (lb_ rfl) (by kernel_rfl) ?_
 unfold strings_trimLeftByte at hF
 refine af (aa (ae (vS (⟨#[]⟩:ByteArray)) wz rfl (ak (af ?_))))
 obtain ⟨o_11,hj_12,hF⟩:=bind_some hF
 obtain ⟨nq_21,hj_12⟩:=d9 hj_12
 refine aH (β:=(ByteArray)) (λ(s_8:ByteArray)=>([(0,(vS s_8))]:SL_)) (λ(s_8:ByteArray)=>([]:Hp)) (λp=>o_11 = .go p) ?_ ?_
 ·refine aG (bv (β:=Nat×(ByteArray)) (λp=>(λ(k_3:Nat) (s_8:ByteArray)=>([(0,(vS s_8)),(1,(.d (.int .u8 c_2)))]:SL_)) p.1 p.2) (λp=>(λ(k_3:Nat) (s_8:ByteArray)=>([]:Hp)) p.1 p.2) (λp=>iterN (λs=>gJ c_2 s) p.1 p.2=some o_11) (λp=>p.1) (nq_21,s_1) hj_12 rfl (aK rfl) ?_)
  rintro ⟨k_3,s_8⟩ hL_10
  dsimp only at hL_10
  cases k_3 with
  | zero=>cases hL_10
  | succ k_3 =>
   obtain ⟨c_,hc_9,hL_10⟩:=bind_some hL_10
   unfold gJ at hc_9
   refine af (af ?_)
   obtain ⟨v_13,h_14,hc_9⟩:=bind_some hc_9
   refine aH (β:=Unit) (λ_=>([(0,(vS s_8)),(1,(.d (.int .u8 c_2))),(13,(vB v_13))]:SL_)) (λ_=>([]:Hp)) (λ_=>True) ?_ ?_
   ·refine aa (ae (vS s_8) wz rfl (lL un9 rfl wz (ae (vB (decide ((s_8.size:Int)>0))) wz rfl ?_)))
    rcases au h_14 with⟨hc_15,h_14⟩|⟨hc_15,h_14⟩
    ·refine ax rfl hc_15 wz (ae (vS s_8) wa rfl ?_)
     obtain ⟨b_16,hy_17,h_14⟩:=bind_some h_14
     refine jm un9 rfl rfl hy_17 wa (ae (.d (.int .u8 c_2)) wa rfl (ae (vB ((b_16.toNat:Int)==c_2)) wa rfl (ae (vB ((b_16.toNat:Int)==c_2)) wz rfl (ak ?_))))
     obtain rfl:=aj h_14
     exact cu
    ·refine ax rfl hc_15 wz (ah wa (ah wa (ah wa (ah wa (ae (vB false) wz rfl (ak ?_))))))
     obtain rfl:=aj h_14
     exact cu
   ·rintro ⟨⟩ _ sl_ H_ hp_ hq_
    refine aM _ hp_ hq_ ?_
    rcases au hc_9 with⟨hc_18,hc_9⟩|⟨hc_18,hc_9⟩
    ·refine aB rfl hc_18 (av (aG (aa (ae (vS s_8) wz rfl ?_))))
     obtain ⟨y_19,hy_20,hc_9⟩:=bind_some hc_9
     refine fH un9 rfl rfl hy_20 wz (ae (vS y_19) wz rfl (ak ?_))
     obtain rfl:=aj hc_9
     exact aY (k_3,y_19) hL_10 (ls_ _) rfl (aK rfl)
    ·refine aA rfl hc_18 (aX ?_)
     obtain rfl:=aj hc_9
     obtain rfl:=aj hL_10
     exact aS (s_8) rfl rfl (aK rfl)
 ·rintro s_8 ho_ sl_ H_ hp_ hq_
  subst ho_
  refine aM _ hp_ hq_ (af (aa (ae (vS s_8) wz rfl (ae (vS s_8) wz rfl (ak ?_)))))
  obtain rfl:=aj hF
  exact ay (aO (.inr rfl) [(vS s_8)] ⟨rfl,trivial⟩ rfl rfl rfl)
theorem Ad {s_1:ByteArray} {cutset_2:ByteArray} {r:ByteArray} (hF:mK s_1 cutset_2=some r) :
  FnM Tryz.prog 274 [(vS s_1),(vS cutset_2)] [] (vS r) []:=by
 refine FnM.of_wH ⟨Tryz.prog,43,[],[]⟩ rfl Tryz.func274 rfl rfl (lb_ rfl) (by kernel_rfl) ?_
 unfold mK at hF
 refine af (aa (ae (vS (⟨#[]⟩:ByteArray)) wz rfl (ak (af (af ?_)))))
 obtain ⟨v_3,h_4,hF⟩:=bind_some hF
 refine aH (β:=Unit) (λ_=>([(0,(vS s_1)),(1,(vS cutset_2)),(12,(vB v_3))]:SL_)) (λ_=>([]:Hp)) (λ_=>True) ?_ ?_
 ·refine aa (ae (vS s_1) wz rfl (ae (vB (sEq s_1 (⟨#[]⟩:ByteArray))) wz rfl ?_))
  rcases au h_4 with⟨hc_5,h_4⟩|⟨hc_5,h_4⟩
  ·refine ax rfl hc_5 wz (ah wa (ah wa (ae (vB true) wz rfl (ak ?_))))
   obtain rfl:=aj h_4
   exact cu
  ·refine ax rfl hc_5 wz (ae (vS cutset_2) wa rfl (ae (vB (sEq cutset_2 (⟨#[]⟩:ByteArray))) wa rfl (ae (vB (sEq cutset_2 (⟨#[]⟩:ByteArray))) wz rfl (ak ?_))))
   obtain rfl:=aj h_4
   exact cu
 ·rintro ⟨⟩ _ sl_ H_ hp_ hq_
  refine aM _ hp_ hq_ ?_
  rcases au hF with⟨hc_6,hF⟩|⟨hc_6,hF⟩
  ·refine aB rfl hc_6 (af (aa (ae (vS s_1) wz rfl (ae (vS s_1) wz rfl (ak ?_)))))
   obtain rfl:=aj hF
   exact ay (aO (.inr rfl) [(vS s_1)] ⟨rfl,trivial⟩ rfl rfl rfl)
  ·refine aA rfl hc_6 (av (af (af ?_)))
   obtain ⟨v_7,h_8,hF⟩:=bind_some hF
   refine aH (β:=Unit) (λ_=>([(0,(vS s_1)),(1,(vS cutset_2)),(21,(vB v_7))]:SL_)) (λ_=>([]:Hp)) (λ_=>True) ?_ ?_
   ·refine aa (ae (vS cutset_2) wz rfl (lL un9 rfl wz (ae (vB ((cutset_2.size:Int)==1)) wz rfl ?_)))
    rcases au h_8 with⟨hc_9,h_8⟩|⟨hc_9,h_8⟩
    ·refine ax rfl hc_9 wz (ae (vS cutset_2) wa rfl ?_)
     obtain ⟨b_10,hy_11,h_8⟩:=bind_some h_8
     refine jm un9 rfl rfl hy_11 wa (ae (vB (decide ((b_10.toNat:Int)<128))) wa rfl (ae (vB (decide ((b_10.toNat:Int)<128))) wz rfl (ak ?_)))
     obtain rfl:=aj h_8
     exact cu
    ·refine ax rfl hc_9 wz (ah wa (ah wa (ah wa (ae (vB false) wz rfl (ak ?_)))))
     obtain rfl:=aj h_8
     exact cu
   ·rintro ⟨⟩ _ sl_ H_ hp_ hq_
    refine aM _ hp_ hq_ ?_
    rcases au hF with⟨hc_12,hF⟩|⟨hc_12,hF⟩
    ·refine aB rfl hc_12 (af (bG (ae (vS s_1) wz rfl (ae (vS cutset_2) wz rfl ?_))))
     obtain ⟨b_13,hy_14,hF⟩:=bind_some hF
     refine jm un9 rfl rfl hy_14 wz ?_
     obtain ⟨r_15,hr_16,hF⟩:=bind_some hF
     refine aD (qU hr_16) rfl hb285 rfl rfl rfl rfl wz (ae (vS cutset_2) wz rfl ?_)
     obtain ⟨b_17,hy_18,hF⟩:=bind_some hF
     refine jm un9 rfl rfl hy_18 wz ?_
     obtain ⟨r_19,hr_20,hF⟩:=bind_some hF
     refine aD (sj hr_20) rfl hb284 rfl rfl rfl rfl wz (ae (vS r_19) wz rfl (ak ?_))
     obtain rfl:=aj hF
     exact ay (aO (.inr rfl) [(vS r_19)] ⟨rfl,trivial⟩ rfl rfl rfl)
    ·refine aA rfl hc_12 (av (af (af (aa (ae (vS cutset_2) wz rfl ?_)))))
     cases hF
theorem l6 {s_1:ByteArray} {c_2:Int} {r:Int} (hF:fU s_1 c_2=some r) :
  FnM Tryz.prog 198 [(vS s_1),(.d (.int .u8 c_2))] [] (vI r) []:=by
 refine FnM.of_wH ⟨Tryz.prog,8,[],[]⟩ rfl Tryz.func198 rfl rfl (lb_ rfl) (by kernel_rfl) ?_
 unfold fU at hF
 refine af (aa (ae (vI 0) wz rfl (ak (af (aa (ae (vS s_1) wz rfl (ae (.d (.int .u8 c_2)) wz rfl (h_ext (ext_ixB (f:=245) Tryz.func245 rfl rfl (by kernel_rfl) (by kernel_rfl) _ _) rfl nb245 rfl wz (ae (vI (ixB s_1 c_2)) wz rfl (ak ?_))))))))))
 obtain rfl:=aj hF
 exact ay (aO (.inr rfl) [(vI (ixB s_1 c_2))] ⟨rfl,trivial⟩ rfl rfl rfl)
theorem nU {s_1:ByteArray} {substr_2:ByteArray} {r:Int} (hF:iw s_1 substr_2=some r) :
  FnM Tryz.prog 297 [(vS s_1),(vS substr_2)] [] (vI r) []:=by
 refine FnM.of_wH ⟨Tryz.prog,143,[],[]⟩ rfl Tryz.func297 rfl rfl (lb_ rfl) (by kernel_rfl) ?_
 unfold iw at hF
 refine af (aa (ae (vI 0) wz rfl (ak (af (aa (ae (vS substr_2) wz rfl (lL un9 rfl wz (ae (vI (substr_2.size:Int)) wz rfl (ak (af (aG (af ?_))))))))))))
 obtain ⟨v_3,h_4,hF⟩:=bind_some hF
 refine aH (β:=Unit) (λ_=>([(0,(vS s_1)),(1,(vS substr_2)),(5,(vI (substr_2.size:Int))),(16,(vB v_3))]:SL_)) (λ_=>([]:Hp)) (λ_=>True) ?_ ?_
 ·refine aa (ae (vI (substr_2.size:Int)) wz rfl (ae (vB ((substr_2.size:Int)==0)) wz rfl ?_))
  rcases au h_4 with⟨hc_5,h_4⟩|⟨hc_5,h_4⟩
  ·refine ax rfl hc_5 wz (ah wa (ah wa (ah wa (ae (vB true) wz rfl (ae (vB true) wz rfl (ak ?_))))))
   obtain rfl:=aj h_4
   exact cu
  ·refine ax rfl hc_5 wz (ae (vS substr_2) wa rfl (ae (vS s_1) wa rfl (ae (vB (sEq substr_2 s_1)) wa rfl (ae (vB (sEq substr_2 s_1)) wz rfl (ae (vB (sEq substr_2 s_1)) wz rfl (ak ?_))))))
   obtain rfl:=aj h_4
   exact cu
 ·rintro ⟨⟩ _ sl_ H_ hp_ hq_
  refine aM _ hp_ hq_ ?_
  rcases au hF with⟨hc_6,hF⟩|⟨hc_6,hF⟩
  ·refine aB rfl hc_6 (af (aa (ae (vI 0) wz rfl (ak ?_))))
   obtain rfl:=aj hF
   exact ay (aO (.inr rfl) [(vI 0)] ⟨rfl,trivial⟩ rfl rfl rfl)
  ·refine aA rfl hc_6 (af (aa (ae (vI (substr_2.size:Int)) wz rfl (ae (vB ((substr_2.size:Int)==1)) wz rfl (ae (vB ((substr_2.size:Int)==1)) wz rfl (ak ?_))))))
   rcases au hF with⟨hc_7,hF⟩|⟨hc_7,hF⟩
   ·refine aB rfl hc_7 (af (aa (ae (vS s_1) wz rfl (ae (vS substr_2) wz rfl ?_))))
    obtain ⟨b_8,hy_9,hF⟩:=bind_some hF
    refine jm un9 rfl rfl hy_9 wz ?_
    obtain ⟨r_10,hr_11,hF⟩:=bind_some hF
    refine aD (l6 hr_11) rfl hb198 rfl rfl rfl rfl wz (ae (vI r_10) wz rfl (ak ?_))
    obtain rfl:=aj hF
    exact ay (aO (.inr rfl) [(vI r_10)] ⟨rfl,trivial⟩ rfl rfl rfl)
   ·refine aA rfl hc_7 (af (aa (ae (vI (substr_2.size:Int)) wz rfl (ae (vS s_1) wz rfl (lL un9 rfl wz (ae (vB (decide ((substr_2.size:Int)>=(s_1.size:Int)))) wz rfl (ae (vB (decide ((substr_2.size:Int)>=(s_1.size:Int)))) wz rfl (ak ?_))))))))
    rcases au hF with⟨hc_12,hF⟩|⟨hc_12,hF⟩
    ·refine aB rfl hc_12 (af (aa (ae (vI (-1)) wz rfl (ak ?_))))
     obtain rfl:=aj hF
     exact ay (aO (.inr rfl) [(vI (-1))] ⟨rfl,trivial⟩ rfl rfl rfl)
    ·refine aA rfl hc_12 (af (aa (ae (vI (substr_2.size:Int)) wz rfl ?_)))
     cases hF
theorem yH {s_1:ByteArray} {substr_2:ByteArray} {r:Int} (hF:strings_Index s_1 substr_2=some r) :
  FnM Tryz.prog 291 [(vS s_1),(vS substr_2)] [] (vI r) []:=by
 refine FnM.of_wH ⟨Tryz.prog,8,[],[]⟩ rfl Tryz.func291 rfl rfl (lb_ rfl) (by kernel_rfl) ?_
 unfold strings_Index at hF
 refine af (aa (ae (vI 0) wz rfl (ak (af (aa (ae (vS s_1) wz rfl (ae (vS substr_2) wz rfl ?_)))))))
 obtain ⟨r_3,hr_4,hF⟩:=bind_some hF
 refine aD (nU hr_4) rfl hb297 rfl rfl rfl rfl wz (ae (vI r_3) wz rfl (ak ?_))
 obtain rfl:=aj hF
 exact ay (aO (.inr rfl) [(vI r_3)] ⟨rfl,trivial⟩ rfl rfl rfl)
theorem vX {s_1:ByteArray} {substr_2:ByteArray} {r:Bool} (hF:strings_Contains s_1 substr_2=some r) :
  FnM Tryz.prog 275 [(vS s_1),(vS substr_2)] [] (vB r) []:=by
 refine FnM.of_wH ⟨Tryz.prog,9,[],[]⟩ rfl Tryz.func275 rfl rfl (lb_ rfl) (by kernel_rfl) ?_
 unfold strings_Contains at hF
 refine af (aa (ae (vB false) wz rfl (ak (af (aa (ae (vS s_1) wz rfl (ae (vS substr_2) wz rfl ?_)))))))
 obtain ⟨r_3,hr_4,hF⟩:=bind_some hF
 refine aD (yH hr_4) rfl hb291 rfl rfl rfl rfl wz (ae (vB (decide (r_3>=0))) wz rfl (ae (vB (decide (r_3>=0))) wz rfl (ak ?_)))
 obtain rfl:=aj hF
 exact ay (aO (.inr rfl) [(vB (decide (r_3>=0)))] ⟨rfl,trivial⟩ rfl rfl rfl)
theorem AR {s_1:ByteArray} {r:Bool} (hF:nP s_1=some r) :
  FnM Tryz.prog 252 [(vS s_1)] [] (vB r) []:=by
 refine FnM.of_wH ⟨Tryz.prog,33,[],[]⟩ rfl Tryz.func252 rfl rfl (lb_ rfl) (by kernel_rfl) ?_
 unfold nP at hF
 refine af (aa (ae (vB false) wz rfl (ak (af (af (aa (ae (vI 0) wz rfl (ak ?_))))))))
 obtain ⟨o_10,hj_11,hF⟩:=bind_some hF
 obtain ⟨nq_31,hj_11⟩:=d9 hj_11
 refine aH (β:=(Int)) (λ(s_7:Int)=>([(0,(vS s_1))]:SL_)) (λ(s_7:Int)=>([]:Hp)) (λp=>o_10 = .go p) ?_ ?_
 ·refine aG (bv (β:=Nat×(Int)) (λp=>(λ(k_2:Nat) (s_7:Int)=>([(0,(vS s_1)),(3,(vI s_7))]:SL_)) p.1 p.2) (λp=>(λ(k_2:Nat) (s_7:Int)=>([]:Hp)) p.1 p.2) (λp=>iterN (λs=>mH s_1 s) p.1 p.2=some o_10) (λp=>p.1) (nq_31,0) hj_11 rfl (aK rfl) ?_)
  rintro ⟨k_2,s_7⟩ hL_9
  dsimp only at hL_9
  cases k_2 with
  | zero=>cases hL_9
  | succ k_2 =>
   obtain ⟨c_,hc_8,hL_9⟩:=bind_some hL_9
   unfold mH at hc_8
   refine af (af (aa (ae (vI s_7) wz rfl (ae (vS s_1) wz rfl (lL un9 rfl wz (ae (vB (decide (s_7<(s_1.size:Int)))) wz rfl (ak ?_)))))))
   rcases au hc_8 with⟨hc_12,hc_8⟩|⟨hc_12,hc_8⟩
   ·refine aB rfl hc_12 (av (af (aG (af ?_))))
    obtain ⟨v_13,h_14,hc_8⟩:=bind_some hc_8
    refine aH (β:=Unit) (λ_=>([(0,(vS s_1)),(3,(vI s_7)),(19,(vB v_13))]:SL_)) (λ_=>([]:Hp)) (λ_=>True) ?_ ?_
    ·refine aa (ae (vS s_1) wz rfl (ae (vI s_7) wz rfl ?_))
     obtain ⟨b_15,hy_16,h_14⟩:=bind_some h_14
     refine jm un9 rfl rfl hy_16 wz (ae (vB (decide ((b_15.toNat:Int)<32))) wz rfl ?_)
     rcases au h_14 with⟨hc_17,h_14⟩|⟨hc_17,h_14⟩
     ·refine ax rfl hc_17 wz (ah wa (ah wa (ah wa (ah wa (ae (vB true) wz rfl (ak ?_))))))
      obtain rfl:=aj h_14
      exact cu
     ·refine ax rfl hc_17 wz (ae (vS s_1) wa rfl (ae (vI s_7) wa rfl ?_))
      obtain ⟨b_18,hy_19,h_14⟩:=bind_some h_14
      refine jm un9 rfl rfl hy_19 wa (ae (vB ((b_18.toNat:Int)==127)) wa rfl (ae (vB ((b_18.toNat:Int)==127)) wz rfl (ak ?_)))
      obtain rfl:=aj h_14
      exact cu
    ·rintro ⟨⟩ _ sl_ H_ hp_ hq_
     refine aM _ hp_ hq_ ?_
     rcases au hc_8 with⟨hc_20,hc_8⟩|⟨hc_20,hc_8⟩
     ·refine aB rfl hc_20 (af (aa (ae (vB false) wz rfl (ak ?_))))
      obtain rfl:=aj hc_8
      obtain rfl:=aj hL_9
      obtain rfl:=aj hF
      exact ay (aO (.inr rfl) [(vB false)] ⟨rfl,trivial⟩ rfl rfl rfl)
     ·refine aA rfl hc_20 (av (aa (ae (vI s_7) wz rfl (ae (vI (w64 (s_7+1))) wz rfl (ae (vI (w64 (s_7+1))) wz rfl (ak ?_))))))
      obtain rfl:=aj hc_8
      exact aY (k_2,(w64 (s_7+1))) hL_9 (ls_ _) rfl (aK rfl)
   ·refine aA rfl hc_12 (aX ?_)
    obtain rfl:=aj hc_8
    obtain rfl:=aj hL_9
    exact aS (s_7) rfl rfl (aK rfl)
 ·rintro s_7 ho_ sl_ H_ hp_ hq_
  subst ho_
  refine aM _ hp_ hq_ (af ?_)
  obtain ⟨v_21,h_22,hF⟩:=bind_some hF
  refine aH (β:=Unit) (λ_=>([(2,(vB v_21))]:SL_)) (λ_=>([]:Hp)) (λ_=>True) ?_ ?_
  ·refine aa (ae (vS s_1) wz rfl ?_)
   obtain ⟨r_23,hr_24,h_22⟩:=bind_some h_22
   refine aD (o9 hr_24) rfl hb273 rfl rfl rfl rfl wz ?_
   rcases au h_22 with⟨hc_25,h_22⟩|⟨hc_25,h_22⟩
   ·refine ax rfl hc_25 wz (ae (vS s_1) wa rfl ?_)
    obtain ⟨r_26,hr_27,h_22⟩:=bind_some h_22
    refine aD (Ad hr_27) rfl hb274 rfl rfl rfl rfl wa (ae (vS s_1) wa rfl (ae (vB (sEq r_26 s_1)) wa rfl (ae (vB (sEq r_26 s_1)) wz rfl ?_)))
    rcases au h_22 with⟨hc_28,h_22⟩|⟨hc_28,h_22⟩
    ·refine ax rfl hc_28 wz (ae (vS s_1) wa rfl ?_)
     obtain ⟨r_29,hr_30,h_22⟩:=bind_some h_22
     refine aD (vX hr_30) rfl hb275 rfl rfl rfl rfl wa (ae (vB (!r_29)) wa rfl (ae (vB (!r_29)) wz rfl (ae (vB (!r_29)) wz rfl (ak ?_))))
     obtain rfl:=aj h_22
     exact cu
    ·refine ax rfl hc_28 wz (ah wa (ah wa (ah wa (ae (vB false) wz rfl (ae (vB false) wz rfl (ak ?_))))))
     obtain rfl:=aj h_22
     exact cu
   ·refine ax rfl hc_25 wz (ah wa (ah wa (ah wa (ah wa (ae (vB false) wz rfl (ae (vB false) wz rfl (ah wa (ah wa (ah wa (ae (vB false) wz rfl (ae (vB false) wz rfl (ak ?_))))))))))))
    obtain rfl:=aj h_22
    exact cu
  ·rintro ⟨⟩ _ sl_ H_ hp_ hq_
   refine aM _ hp_ hq_ ?_
   obtain rfl:=aj hF
   exact ay (aO (.inr rfl) [(vB v_21)] ⟨rfl,trivial⟩ rfl rfl rfl)
end Go.Proofs.YtnjnggakgeommaaGreatDoor.Law

