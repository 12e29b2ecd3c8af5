/-
 The machine computes these plain functions (written by a program of ours).
-/
import Derived.Test.YtnjnggakgeommaaGreatFacts
import Derived.Test.YtnjnggakgeommaaGreatDefs
import Derived.Test.YtnjnggakgeommaaGreatPf4
open Go Go.Eng Go.Proofs
namespace Go.Proofs.YtnjnggakgeommaaGreat.Law
set_option maxRecDepth 100000
set_option linter.unusedVariables false
set_option maxHeartbeats 1000000
theorem yE {e_1:Entry} {r:Int} (hF:lI e_1=some r) :
  FnM Tryz.prog 37 [(.d (.agg (Entry.enc e_1)))] [] (vI r) []:=by
 refine FnM.of_wH ⟨Tryz.prog,94,[],[]⟩ rfl Tryz.func37 rfl rfl (lb_ rfl) (by kernel_rfl) ?_
 unfold lI at hF
 refine af (aa (dZ 0 (.inl rfl) [(vS e_1.Key),(vS e_1.Item),(vI e_1.Version),(vI e_1.First),(vI e_1.Last),(vI e_1.Every),(vI e_1.Days),(vL eI e_1.Except),(vI e_1.From),(vI e_1.To),(vI e_1.Prio),(vL eS e_1.Tags),(vB e_1.Gone)] rfl rfl wz (λn_2=>ae (vI 0) wz rfl (aj (af (aD (af ?_)))))))
 obtain ⟨v_3,h_4,hF⟩:=bind_some hF
 refine aG (β:=Unit) (λ_=>([(1,(.ref n_2 0 0)),(5,(vB v_3))]:SL_)) (λ_=>([(n_2,some (.cells 13 [(vS e_1.Key),(vS e_1.Item),(vI e_1.Version),(vI e_1.First),(vI e_1.Last),(vI e_1.Every),(vI e_1.Days),(vL eI e_1.Except),(vI e_1.From),(vI e_1.To),(vI e_1.Prio),(vL eS e_1.Tags),(vB e_1.Gone)]))]:Hp)) (λ_=>True) ?_ ?_
 ·refine aa (aJ j5 rfl 0 rfl wz (ay 0 0 il ft sz9 ag9 rfl rfl (vS e_1.Key) rfl wz ?_))
  obtain ⟨r_5,hr_6,h_4⟩:=bind_some h_4
  refine aF (qN hr_6) rfl LQ rfl rfl rfl rfl wz (ae (vB (!r_5)) wz rfl ?_)
  rcases au h_4 with⟨hc_7,h_4⟩|⟨hc_7,h_4⟩
  ·refine aH rfl hc_7 wz (ak wa (ak wa (ak wa (ak wa (ae (vB true) wz rfl (ae (vB true) wz rfl (aj ?_)))))))
   obtain rfl:=ah h_4
   exact cu
  ·refine aH rfl hc_7 wz (aJ yc rfl 1 rfl wa (ay 0 0 il ft sz9 ag9 rfl rfl (vS e_1.Item) rfl wa ?_))
   obtain ⟨r_8,hr_9,h_4⟩:=bind_some h_4
   refine aF (qN hr_9) rfl LQ rfl rfl rfl rfl wa (ae (vB (!r_8)) wa rfl (ae (vB (!r_8)) wz rfl (ae (vB (!r_8)) wz rfl (aj ?_))))
   obtain rfl:=ah h_4
   exact cu
 ·rintro ⟨⟩ _ sl_ H_ hp_ hq_
  refine aN _ hp_ hq_ ?_
  rcases au hF with⟨hc_10,hF⟩|⟨hc_10,hF⟩
  ·refine aB rfl hc_10 (af (aa (ae (vI 5) wz rfl (aj ?_))))
   obtain rfl:=ah hF
   exact aC (bv (.inr rfl) [(vI 5)] ⟨rfl,trivial⟩ rfl rfl rfl)
  ·refine aA rfl hc_10 (af ?_)
   obtain ⟨v_11,h_12,hF⟩:=bind_some hF
   refine aG (β:=Unit) (λ_=>([(1,(.ref n_2 0 0)),(16,(vB v_11))]:SL_)) (λ_=>([(n_2,some (.cells 13 [(vS e_1.Key),(vS e_1.Item),(vI e_1.Version),(vI e_1.First),(vI e_1.Last),(vI e_1.Every),(vI e_1.Days),(vL eI e_1.Except),(vI e_1.From),(vI e_1.To),(vI e_1.Prio),(vL eS e_1.Tags),(vB e_1.Gone)]))]:Hp)) (λ_=>True) ?_ ?_
   ·refine aa (aJ Lv rfl 2 rfl wz (ay 0 0 il ft sz3 ag3 rfl rfl (vI e_1.Version) rfl wz ?_))
    obtain ⟨r_13,hr_14,h_12⟩:=bind_some h_12
    refine aF (jH hr_14) rfl AY rfl rfl rfl rfl wz (ae (vB (!r_13)) wz rfl ?_)
    rcases au h_12 with⟨hc_15,h_12⟩|⟨hc_15,h_12⟩
    ·refine aH rfl hc_15 wz (ak wa (ak wa (ak wa (ak wa (ak wa (ak wa (ae (vB true) wz rfl (ae (vB true) wz rfl (ak wa (ak wa (ak wa (ae (vB true) wz rfl (ae (vB true) wz rfl (ak wa (ak wa (ak wa (ak wa (ae (vB true) wz rfl (ae (vB true) wz rfl (ak wa (ak wa (ak wa (ak wa ?_)))))))))))))))))))))))
     refine ae (vB true) wz rfl (ae (vB true) wz rfl (aj ?_))
     obtain rfl:=ah h_12
     exact cu
    ·refine aH rfl hc_15 wz (aJ rf rfl 3 rfl wa (ay 0 0 il ft sz3 ag3 rfl rfl (vI e_1.First) rfl wa (aJ qV rfl 4 rfl wa (ay 0 0 il ft sz3 ag3 rfl rfl (vI e_1.Last) rfl wa ?_))))
     obtain ⟨r_16,hr_17,h_12⟩:=bind_some h_12
     refine aF (jH hr_17) rfl AY rfl rfl rfl rfl wa (ae (vB (!r_16)) wa rfl (ae (vB (!r_16)) wz rfl ?_))
     rcases au h_12 with⟨hc_18,h_12⟩|⟨hc_18,h_12⟩
     ·refine aH rfl hc_18 wz (ak wa (ak wa (ak wa (ae (vB true) wz rfl (ae (vB true) wz rfl (ak wa (ak wa (ak wa (ak wa (ae (vB true) wz rfl (ae (vB true) wz rfl (ak wa (ak wa (ak wa (ak wa (ae (vB true) wz rfl (ae (vB true) wz rfl (aj ?_))))))))))))))))))
      obtain rfl:=ah h_12
      exact cu
     ·refine aH rfl hc_18 wz (aJ qV rfl 4 rfl wa (ay 0 0 il ft sz3 ag3 rfl rfl (vI e_1.Last) rfl wa (ae (vB (decide (e_1.Last>4000))) wa rfl (ae (vB (decide (e_1.Last>4000))) wz rfl ?_))))
      rcases au h_12 with⟨hc_19,h_12⟩|⟨hc_19,h_12⟩
      ·refine aH rfl hc_19 wz (ak wa (ak wa (ak wa (ak wa (ae (vB true) wz rfl (ae (vB true) wz rfl (ak wa (ak wa (ak wa (ak wa (ae (vB true) wz rfl (ae (vB true) wz rfl (aj ?_)))))))))))))
       obtain rfl:=ah h_12
       exact cu
      ·refine aH rfl hc_19 wz (aJ Cb rfl 5 rfl wa (ay 0 0 il ft sz3 ag3 rfl rfl (vI e_1.Every) rfl wa ?_))
       obtain ⟨r_20,hr_21,h_12⟩:=bind_some h_12
       refine aF (jH hr_21) rfl AY rfl rfl rfl rfl wa (ae (vB (!r_20)) wa rfl (ae (vB (!r_20)) wz rfl ?_))
       rcases au h_12 with⟨hc_22,h_12⟩|⟨hc_22,h_12⟩
       ·refine aH rfl hc_22 wz (ak wa (ak wa (ak wa (ak wa (ae (vB true) wz rfl (ae (vB true) wz rfl (aj ?_)))))))
        obtain rfl:=ah h_12
        exact cu
       ·refine aH rfl hc_22 wz (aJ BB rfl 6 rfl wa (ay 0 0 il ft sz3 ag3 rfl rfl (vI e_1.Days) rfl wa ?_))
        obtain ⟨r_23,hr_24,h_12⟩:=bind_some h_12
        refine aF (jH hr_24) rfl AY rfl rfl rfl rfl wa (ae (vB (!r_23)) wa rfl (ae (vB (!r_23)) wz rfl (ae (vB (!r_23)) wz rfl (aj ?_))))
        obtain rfl:=ah h_12
        exact cu
   ·rintro ⟨⟩ _ sl_ H_ hp_ hq_
    refine aN _ hp_ hq_ ?_
    rcases au hF with⟨hc_25,hF⟩|⟨hc_25,hF⟩
    ·refine aB rfl hc_25 (af (aa (ae (vI 1) wz rfl (aj ?_))))
     obtain rfl:=ah hF
     exact aC (bv (.inr rfl) [(vI 1)] ⟨rfl,trivial⟩ rfl rfl rfl)
    ·refine aA rfl hc_25 (af (aa (aJ rT rfl 7 rfl wz (ay 0 0 il ft qw sH rfl rfl (vL eI e_1.Except) rfl wz (bX nL rfl wz (ae (vB (decide ((e_1.Except.length:Int)>100))) wz rfl (ae (vB (decide ((e_1.Except.length:Int)>100))) wz rfl (aj ?_))))))))
     rcases au hF with⟨hc_26,hF⟩|⟨hc_26,hF⟩
     ·refine aB rfl hc_26 (af (aa (ae (vI 2) wz rfl (aj ?_))))
      obtain rfl:=ah hF
      exact aC (bv (.inr rfl) [(vI 2)] ⟨rfl,trivial⟩ rfl rfl rfl)
     ·refine aA rfl hc_26 (ax (af (af (aa (aJ rT rfl 7 rfl wz (ay 0 0 il ft qw sH rfl rfl (vL eI e_1.Except) rfl wz (bX nL rfl wz (ae (vI 0) wz rfl (aj ?_)))))))))
      obtain ⟨o_35,hj_36,hF⟩:=bind_some hF
      obtain ⟨hn_31,hj_36⟩:=bn hj_36
      refine aG (β:=(Unit)) (λ(s_32:Unit)=>([(1,(.ref n_2 0 0))]:SL_)) (λ(s_32:Unit)=>([(n_2,some (.cells 13 [(vS e_1.Key),(vS e_1.Item),(vI e_1.Version),(vI e_1.First),(vI e_1.Last),(vI e_1.Every),(vI e_1.Days),(vL eI e_1.Except),(vI e_1.From),(vI e_1.To),(vI e_1.Prio),(vL eS e_1.Tags),(vB e_1.Gone)]))]:Hp)) (λp=>o_35 = .go p) ?_ ?_
      ·refine aD (aX (β:=Nat×(List Int)×(Unit)) (λp=>(λ(k_27:Nat) (l_28:List Int) (s_32:Unit)=>([(1,(.ref n_2 0 0)),(52,(vL eI e_1.Except)),(53,(vI (e_1.Except.length:Int))),(54,(vI (k_27:Int)))]:SL_)) p.1 p.2.1 p.2.2) (λp=>(λ(k_27:Nat) (l_28:List Int) (s_32:Unit)=>([(n_2,some (.cells 13 [(vS e_1.Key),(vS e_1.Item),(vI e_1.Version),(vI e_1.First),(vI e_1.Last),(vI e_1.Every),(vI e_1.Days),(vL eI e_1.Except),(vI e_1.From),(vI e_1.To),(vI e_1.Prio),(vL eS e_1.Tags),(vB e_1.Gone)]))]:Hp)) p.1 p.2.1 p.2.2) (λp=>dG (λk x s=>lw e_1 k x s) p.2.1 p.1 p.2.2=some o_35/\(e_1.Except).drop p.1=p.2.1) (λp=>p.2.1.length) (0,e_1.Except,()) ⟨hj_36,rfl⟩ rfl (aK rfl) ?_)
       rintro ⟨k_27,l_28,s_32⟩ ⟨hL_34,hD_30⟩
       dsimp only at hL_34 hD_30
       cases l_28 with
       | nil =>
        obtain rfl:=ah hL_34
        refine af (aa (ae (vB (decide ((k_27:Int)<(e_1.Except.length:Int)))) wz rfl (aj ?_)))
        refine af (aA rfl (drop_nil hD_30) (aS ?_))
        exact aU (s_32) rfl rfl (aK rfl)
       | cons x_29 l_28 =>
        obtain ⟨c_,hc_33,hL_34⟩:=bind_some hL_34
        refine af (aa (ae (vB (decide ((k_27:Int)<(e_1.Except.length:Int)))) wz rfl (aj ?_)))
        refine af (aB rfl (bE hD_30) (ax ?_))
        unfold lw at hc_33
        refine af (aD (af (aa (ae (vI (k_27:Int)) wz rfl (dL iE rfl rfl (bL hD_30) rfl wz (bz sz3 ag3 rfl (vI x_29) rfl wz (ae (vI (k_27:Int)) wz rfl (ae (vI x_29) wz rfl (aj (af (af (aa (ae (vI x_29) wz rfl ?_)))))))))))))
        obtain ⟨r_37,hr_38,hc_33⟩:=bind_some hc_33
        refine aF (jH hr_38) rfl AY rfl rfl rfl rfl wz (ae (vB (!r_37)) wz rfl (aj ?_))
        rcases au hc_33 with⟨hc_39,hc_33⟩|⟨hc_39,hc_33⟩
        ·refine aB rfl hc_39 (af (aa (ae (vI 1) wz rfl (aj ?_))))
         obtain rfl:=ah hc_33
         obtain rfl:=ah hL_34
         obtain rfl:=ah hF
         exact aC (bv (.inr rfl) [(vI 1)] ⟨rfl,trivial⟩ rfl rfl rfl)
        ·refine aA rfl hc_39 (ax (af ?_))
         obtain ⟨v_40,h_41,hc_33⟩:=bind_some hc_33
         refine aG (β:=Unit) (λ_=>([(1,(.ref n_2 0 0)),(52,(vL eI e_1.Except)),(53,(vI (e_1.Except.length:Int))),(54,(vI (k_27:Int))),(73,(vB v_40))]:SL_)) (λ_=>([(n_2,some (.cells 13 [(vS e_1.Key),(vS e_1.Item),(vI e_1.Version),(vI e_1.First),(vI e_1.Last),(vI e_1.Every),(vI e_1.Days),(vL eI e_1.Except),(vI e_1.From),(vI e_1.To),(vI e_1.Prio),(vL eS e_1.Tags),(vB e_1.Gone)]))]:Hp)) (λ_=>True) ?_ ?_
         ·refine aa (ae (vI (k_27:Int)) wz rfl (ae (vB (decide ((k_27:Int)>0))) wz rfl ?_))
          rcases au h_41 with⟨hc_42,h_41⟩|⟨hc_42,h_41⟩
          ·refine aH rfl hc_42 wz (ae (vI x_29) wa rfl (aJ rT rfl 7 rfl wa (ay 0 0 il ft qw sH rfl rfl (vL eI e_1.Except) rfl wa (ae (vI (k_27:Int)) wa rfl (ae (vI (w64 ((k_27:Int)-1))) wa rfl ?_)))))
           obtain ⟨y_43,hy_44,h_41⟩:=bind_some h_41
           refine dL iE rfl rfl hy_44 rfl wa (bz sz3 ag3 rfl (vI y_43) rfl wa (ae (vB (decide (x_29<=y_43))) wa rfl (ae (vB (decide (x_29<=y_43))) wz rfl (aj ?_))))
           obtain rfl:=ah h_41
           exact cu
          ·refine aH rfl hc_42 wz (ak wa (ak wa (ak wa (ak wa (ak wa (ak wa (ak wa (ak wa (ae (vB false) wz rfl (aj ?_))))))))))
           obtain rfl:=ah h_41
           exact cu
         ·rintro ⟨⟩ _ sl_ H_ hp_ hq_
          refine aN _ hp_ hq_ ?_
          rcases au hc_33 with⟨hc_45,hc_33⟩|⟨hc_45,hc_33⟩
          ·refine aB rfl hc_45 (af (aa (ae (vI 7) wz rfl (aj ?_))))
           obtain rfl:=ah hc_33
           obtain rfl:=ah hL_34
           obtain rfl:=ah hF
           exact aC (bv (.inr rfl) [(vI 7)] ⟨rfl,trivial⟩ rfl rfl rfl)
          ·refine aA rfl hc_45 (ax (aa (gm (bH hD_30 hn_31) wz rfl (ae (vI ((k_27+1:Nat):Int)) wz rfl (aj ?_)))))
           obtain rfl:=ah hc_33
           exact aO (k_27+1,l_28,()) ⟨hL_34,aP hD_30⟩ (ls_ _) rfl (aK rfl)
      ·rintro s_32 ho_ sl_ H_ hp_ hq_
       subst ho_
       refine aN _ hp_ hq_ (af (af ?_))
       obtain ⟨v_46,h_47,hF⟩:=bind_some hF
       refine aG (β:=Unit) (λ_=>([(1,(.ref n_2 0 0)),(90,(vB v_46))]:SL_)) (λ_=>([(n_2,some (.cells 13 [(vS e_1.Key),(vS e_1.Item),(vI e_1.Version),(vI e_1.First),(vI e_1.Last),(vI e_1.Every),(vI e_1.Days),(vL eI e_1.Except),(vI e_1.From),(vI e_1.To),(vI e_1.Prio),(vL eS e_1.Tags),(vB e_1.Gone)]))]:Hp)) (λ_=>True) ?_ ?_
       ·refine aa (aJ xK rfl 8 rfl wz (ay 0 0 il ft sz3 ag3 rfl rfl (vI e_1.From) rfl wz ?_))
        obtain ⟨r_48,hr_49,h_47⟩:=bind_some h_47
        refine aF (jH hr_49) rfl AY rfl rfl rfl rfl wz (ae (vB (!r_48)) wz rfl ?_)
        rcases au h_47 with⟨hc_50,h_47⟩|⟨hc_50,h_47⟩
        ·refine aH rfl hc_50 wz (ak wa (ak wa (ak wa (ak wa (ae (vB true) wz rfl (ae (vB true) wz rfl (ak wa (ak wa (ak wa (ak wa (ae (vB true) wz rfl (aj ?_))))))))))))
         obtain rfl:=ah h_47
         exact cu
        ·refine aH rfl hc_50 wz (aJ BV rfl 9 rfl wa (ay 0 0 il ft sz3 ag3 rfl rfl (vI e_1.To) rfl wa ?_))
         obtain ⟨r_51,hr_52,h_47⟩:=bind_some h_47
         refine aF (jH hr_52) rfl AY rfl rfl rfl rfl wa (ae (vB (!r_51)) wa rfl (ae (vB (!r_51)) wz rfl ?_))
         rcases au h_47 with⟨hc_53,h_47⟩|⟨hc_53,h_47⟩
         ·refine aH rfl hc_53 wz (ak wa (ak wa (ak wa (ak wa (ae (vB true) wz rfl (aj ?_))))))
          obtain rfl:=ah h_47
          exact cu
         ·refine aH rfl hc_53 wz (aJ mQ rfl 10 rfl wa (ay 0 0 il ft sz3 ag3 rfl rfl (vI e_1.Prio) rfl wa ?_))
          obtain ⟨r_54,hr_55,h_47⟩:=bind_some h_47
          refine aF (jH hr_55) rfl AY rfl rfl rfl rfl wa (ae (vB (!r_54)) wa rfl (ae (vB (!r_54)) wz rfl (aj ?_)))
          obtain rfl:=ah h_47
          exact cu
       ·rintro ⟨⟩ _ sl_ H_ hp_ hq_
        refine aN _ hp_ hq_ ?_
        rcases au hF with⟨hc_56,hF⟩|⟨hc_56,hF⟩
        ·refine aB rfl hc_56 (af (aa (ae (vI 1) wz rfl (aj ?_))))
         obtain rfl:=ah hF
         exact aC (bv (.inr rfl) [(vI 1)] ⟨rfl,trivial⟩ rfl rfl rfl)
        ·refine aA rfl hc_56 (ax (af (aa (aJ ug rfl 11 rfl wz (ay 0 0 il ft yT Bb rfl rfl (vL eS e_1.Tags) rfl wz ?_)))))
         obtain ⟨r_57,hr_58,hF⟩:=bind_some hF
         refine aF (sO hr_58) rfl hb40 rfl rfl rfl rfl wz (ae (vI r_57) wz rfl (aj ?_))
         obtain rfl:=ah hF
         exact aC (bv (.inr rfl) [(vI r_57)] ⟨rfl,trivial⟩ rfl rfl rfl)
theorem mD {l_1:(List Entry)} {r:Int} (hF:iJ l_1=some r) :
  FnM Tryz.prog 15 [(vL Entry.enc l_1)] [] (vI r) []:=by
 refine FnM.of_wH ⟨Tryz.prog,28,[],[]⟩ rfl Tryz.func15 rfl rfl (lb_ rfl) (by kernel_rfl) ?_
 unfold iJ at hF
 refine af (aa (ae (vI 0) wz rfl (aj (af (af (aa (ae (vL Entry.enc l_1) wz rfl (bX qb rfl wz (ae (vB (decide ((l_1.length:Int)>200))) wz rfl (aj ?_))))))))))
 rcases au hF with⟨hc_2,hF⟩|⟨hc_2,hF⟩
 ·refine aB rfl hc_2 (af (aa (ae (vI 2) wz rfl (aj ?_))))
  obtain rfl:=ah hF
  exact aC (bv (.inr rfl) [(vI 2)] ⟨rfl,trivial⟩ rfl rfl rfl)
 ·refine aA rfl hc_2 (ax (af (aa (ae (vS (⟨#[]⟩:ByteArray)) wz rfl (aj (af (af (aa (ae (vL Entry.enc l_1) wz rfl (bX qb rfl wz (ae (vI 0) wz rfl (aj ?_))))))))))))
  obtain ⟨o_11,hj_12,hF⟩:=bind_some hF
  obtain ⟨hn_7,hj_12⟩:=bn hj_12
  refine aG (β:=(ByteArray)) (λ(s_8:ByteArray)=>([]:SL_)) (λ(s_8:ByteArray)=>([]:Hp)) (λp=>o_11 = .go p) ?_ ?_
  ·refine aD (aX (β:=Nat×(List Entry)×(ByteArray)) (λp=>(λ(k_3:Nat) (l_4:List Entry) (s_8:ByteArray)=>([(3,(vS s_8)),(10,(vL Entry.enc l_1)),(11,(vI (l_1.length:Int))),(12,(vI (k_3:Int)))]:SL_)) p.1 p.2.1 p.2.2) (λp=>(λ(k_3:Nat) (l_4:List Entry) (s_8:ByteArray)=>([]:Hp)) p.1 p.2.1 p.2.2) (λp=>dG (λk x s=>ic k x s) p.2.1 p.1 p.2.2=some o_11/\(l_1).drop p.1=p.2.1) (λp=>p.2.1.length) (0,l_1,(⟨#[]⟩:ByteArray)) ⟨hj_12,rfl⟩ rfl (aK rfl) ?_)
   rintro ⟨k_3,l_4,s_8⟩ ⟨hL_10,hD_6⟩
   dsimp only at hL_10 hD_6
   cases l_4 with
   | nil =>
    obtain rfl:=ah hL_10
    refine af (aa (ae (vB (decide ((k_3:Int)<(l_1.length:Int)))) wz rfl (aj ?_)))
    refine af (aA rfl (drop_nil hD_6) (aS ?_))
    exact aU (s_8) rfl rfl (aK rfl)
   | cons x_5 l_4 =>
    obtain ⟨c_,hc_9,hL_10⟩:=bind_some hL_10
    refine af (aa (ae (vB (decide ((k_3:Int)<(l_1.length:Int)))) wz rfl (aj ?_)))
    refine af (aB rfl (bE hD_6) (ax ?_))
    unfold ic at hc_9
    refine af (aD (af (aa (dL mE rfl rfl (bL hD_6) rfl wz (bz gK jR rfl (.d (.agg (Entry.enc x_5))) rfl wz (bR 0 (.inl rfl) z38 rfl wz (λn_13=>eu 0 il ft 0 gK rfl rfl [(vS x_5.Key),(vS x_5.Item),(vI x_5.Version),(vI x_5.First),(vI x_5.Last),(vI x_5.Every),(vI x_5.Days),(vL eI x_5.Except),(vI x_5.From),(vI x_5.To),(vI x_5.Prio),(vL eS x_5.Tags),(vB x_5.Gone)] rfl wz (aj (af (af (aa (ay 0 0 il ft gK jR rfl rfl (.d (.agg (Entry.enc x_5))) rfl wz ?_))))))))))))
    obtain ⟨r_14,hr_15,hc_9⟩:=bind_some hc_9
    refine aF (yE hr_15) rfl hb37 rfl rfl rfl rfl wz (ae (vI r_14) wz rfl (aj (af (aa (ae (vI r_14) wz rfl (ae (vB (r_14 != 0)) wz rfl (aj ?_)))))))
    rcases au hc_9 with⟨hc_16,hc_9⟩|⟨hc_16,hc_9⟩
    ·refine aB rfl hc_16 (af (aa (ae (vI r_14) wz rfl (ae (vI r_14) wz rfl (aj ?_)))))
     obtain rfl:=ah hc_9
     obtain rfl:=ah hL_10
     obtain rfl:=ah hF
     exact aC (bv (.inr rfl) [(vI r_14)] ⟨rfl,trivial⟩ rfl rfl rfl)
    ·refine aA rfl hc_16 (ax (af (af (aa (aJ j5 rfl 0 rfl wz (ay 0 0 il ft sz9 ag9 rfl rfl (vS x_5.Key) rfl wz (ae (vS s_8) wz rfl (ae (vB (sLe x_5.Key s_8)) wz rfl (aj ?_)))))))))
     rcases au hc_9 with⟨hc_17,hc_9⟩|⟨hc_17,hc_9⟩
     ·refine aB rfl hc_17 (af (aa (ae (vI 7) wz rfl (aj ?_))))
      obtain rfl:=ah hc_9
      obtain rfl:=ah hL_10
      obtain rfl:=ah hF
      exact aC (bv (.inr rfl) [(vI 7)] ⟨rfl,trivial⟩ rfl rfl rfl)
     ·refine aA rfl hc_17 (ax (aa (aJ j5 rfl 0 rfl wz (ay 0 0 il ft sz9 ag9 rfl rfl (vS x_5.Key) rfl wz (ae (vS x_5.Key) wz rfl (aj (aa (gm (bH hD_6 hn_7) wz rfl (ae (vI ((k_3+1:Nat):Int)) wz rfl (aj ?_))))))))))
      obtain rfl:=ah hc_9
      exact aO (k_3+1,l_4,x_5.Key) ⟨hL_10,aP hD_6⟩ (ls_ _) rfl (aK rfl)
  ·rintro s_8 ho_ sl_ H_ hp_ hq_
   subst ho_
   refine aN _ hp_ hq_ (af (aa (ae (vI 0) wz rfl (aj ?_))))
   obtain rfl:=ah hF
   exact aC (bv (.inr rfl) [(vI 0)] ⟨rfl,trivial⟩ rfl rfl rfl)
theorem xC {p_1:Player} {r:Int} (hF:kR p_1=some r) :
  FnM Tryz.prog 16 [(.d (.agg (Player.enc p_1)))] [] (vI r) []:=by
 refine FnM.of_wH ⟨Tryz.prog,22,[],[]⟩ rfl Tryz.func16 rfl rfl (lb_ rfl) (by kernel_rfl) ?_
 unfold kR at hF
 refine af (aa (dZ 0 (.inl rfl) [(vS p_1.Key),(vS p_1.Screen),(vI p_1.Zone),(vL eS p_1.Tags)] rfl rfl wz (λn_2=>ae (vI 0) wz rfl (aj (af (aD (af ?_)))))))
 obtain ⟨v_3,h_4,hF⟩:=bind_some hF
 refine aG (β:=Unit) (λ_=>([(1,(.ref n_2 0 0)),(3,(vB v_3))]:SL_)) (λ_=>([(n_2,some (.cells 4 [(vS p_1.Key),(vS p_1.Screen),(vI p_1.Zone),(vL eS p_1.Tags)]))]:Hp)) (λ_=>True) ?_ ?_
 ·refine aa (aJ MG rfl 0 rfl wz (ay 0 0 il ft sz9 ag9 rfl rfl (vS p_1.Key) rfl wz ?_))
  obtain ⟨r_5,hr_6,h_4⟩:=bind_some h_4
  refine aF (qN hr_6) rfl LQ rfl rfl rfl rfl wz (ae (vB (!r_5)) wz rfl ?_)
  rcases au h_4 with⟨hc_7,h_4⟩|⟨hc_7,h_4⟩
  ·refine aH rfl hc_7 wz (ak wa (ak wa (ak wa (ak wa (ae (vB true) wz rfl (ae (vB true) wz rfl (aj ?_)))))))
   obtain rfl:=ah h_4
   exact cu
  ·refine aH rfl hc_7 wz (aJ M9 rfl 1 rfl wa (ay 0 0 il ft sz9 ag9 rfl rfl (vS p_1.Screen) rfl wa ?_))
   obtain ⟨r_8,hr_9,h_4⟩:=bind_some h_4
   refine aF (qN hr_9) rfl LQ rfl rfl rfl rfl wa (ae (vB (!r_8)) wa rfl (ae (vB (!r_8)) wz rfl (ae (vB (!r_8)) wz rfl (aj ?_))))
   obtain rfl:=ah h_4
   exact cu
 ·rintro ⟨⟩ _ sl_ H_ hp_ hq_
  refine aN _ hp_ hq_ ?_
  rcases au hF with⟨hc_10,hF⟩|⟨hc_10,hF⟩
  ·refine aB rfl hc_10 (af (aa (ae (vI 5) wz rfl (aj ?_))))
   obtain rfl:=ah hF
   exact aC (bv (.inr rfl) [(vI 5)] ⟨rfl,trivial⟩ rfl rfl rfl)
  ·refine aA rfl hc_10 (af (aa (aJ uD rfl 2 rfl wz (ay 0 0 il ft sz3 ag3 rfl rfl (vI p_1.Zone) rfl wz ?_))))
   obtain ⟨r_11,hr_12,hF⟩:=bind_some hF
   refine aF (jH hr_12) rfl AY rfl rfl rfl rfl wz (ae (vB (!r_11)) wz rfl (ae (vB (!r_11)) wz rfl (aj ?_)))
   rcases au hF with⟨hc_13,hF⟩|⟨hc_13,hF⟩
   ·refine aB rfl hc_13 (af (aa (ae (vI 1) wz rfl (aj ?_))))
    obtain rfl:=ah hF
    exact aC (bv (.inr rfl) [(vI 1)] ⟨rfl,trivial⟩ rfl rfl rfl)
   ·refine aA rfl hc_13 (ax (af (aa (aJ FY rfl 3 rfl wz (ay 0 0 il ft yT Bb rfl rfl (vL eS p_1.Tags) rfl wz ?_)))))
    obtain ⟨r_14,hr_15,hF⟩:=bind_some hF
    refine aF (sO hr_15) rfl hb40 rfl rfl rfl rfl wz (ae (vI r_14) wz rfl (aj ?_))
    obtain rfl:=ah hF
    exact aC (bv (.inr rfl) [(vI r_14)] ⟨rfl,trivial⟩ rfl rfl rfl)
theorem x8 {wv_1:Window} {r:Int} (hF:mO wv_1=some r) :
  FnM Tryz.prog 41 [(.d (.agg (Window.enc wv_1)))] [] (vI r) []:=by
 refine FnM.of_wH ⟨Tryz.prog,14,[],[]⟩ rfl Tryz.func41 rfl rfl (lb_ rfl) (by kernel_rfl) ?_
 unfold mO at hF
 refine af (aa (dZ 0 (.inl rfl) [(vI wv_1.From),(vI wv_1.To)] rfl rfl wz (λn_2=>ae (vI 0) wz rfl (aj (af (af ?_))))))
 obtain ⟨v_3,h_4,hF⟩:=bind_some hF
 refine aG (β:=Unit) (λ_=>([(13,(vB v_3))]:SL_)) (λ_=>([(n_2,some (.cells 2 [(vI wv_1.From),(vI wv_1.To)]))]:Hp)) (λ_=>True) ?_ ?_
 ·refine aa (aJ fw rfl 0 rfl wz (ay 0 0 il ft sz3 ag3 rfl rfl (vI wv_1.From) rfl wz (aJ dX rfl 1 rfl wz (ay 0 0 il ft sz3 ag3 rfl rfl (vI wv_1.To) rfl wz ?_))))
  obtain ⟨r_5,hr_6,h_4⟩:=bind_some h_4
  refine aF (jH hr_6) rfl AY rfl rfl rfl rfl wz (ae (vB (!r_5)) wz rfl ?_)
  rcases au h_4 with⟨hc_7,h_4⟩|⟨hc_7,h_4⟩
  ·refine aH rfl hc_7 wz (ak wa (ak wa (ak wa (ae (vB true) wz rfl (aj ?_)))))
   obtain rfl:=ah h_4
   exact cu
  ·refine aH rfl hc_7 wz (aJ dX rfl 1 rfl wa (ay 0 0 il ft sz3 ag3 rfl rfl (vI wv_1.To) rfl wa (ae (vB (decide (wv_1.To>345686400000))) wa rfl (ae (vB (decide (wv_1.To>345686400000))) wz rfl (aj ?_)))))
   obtain rfl:=ah h_4
   exact cu
 ·rintro ⟨⟩ _ sl_ H_ hp_ hq_
  refine aN _ hp_ hq_ ?_
  rcases au hF with⟨hc_8,hF⟩|⟨hc_8,hF⟩
  ·refine aB rfl hc_8 (af (aa (ae (vI 1) wz rfl (aj ?_))))
   obtain rfl:=ah hF
   exact aC (bv (.inr rfl) [(vI 1)] ⟨rfl,trivial⟩ rfl rfl rfl)
  ·refine aA rfl hc_8 (ax (af (aa (ae (vI 0) wz rfl (aj ?_)))))
   obtain rfl:=ah hF
   exact aC (bv (.inr rfl) [(vI 0)] ⟨rfl,trivial⟩ rfl rfl rfl)
theorem tO {wv_1:Window} {r:Int} (hF:lg wv_1=some r) :
  FnM Tryz.prog 17 [(.d (.agg (Window.enc wv_1)))] [] (vI r) []:=by
 refine FnM.of_wH ⟨Tryz.prog,15,[],[]⟩ rfl Tryz.func17 rfl rfl (lb_ rfl) (by kernel_rfl) ?_
 unfold lg at hF
 refine af (aa (dZ 0 (.inl rfl) [(vI wv_1.From),(vI wv_1.To)] rfl rfl wz (λn_2=>ae (vI 0) wz rfl (aj (af (af (aa (ay 0 0 il ft eP iO rfl rfl (.d (.agg (Window.enc wv_1))) rfl wz ?_))))))))
 obtain ⟨r_3,hr_4,hF⟩:=bind_some hF
 refine aF (x8 hr_4) rfl hb41 rfl rfl rfl rfl wz (ae (vI r_3) wz rfl (aj (af (aa (ae (vI r_3) wz rfl (ae (vB (r_3 != 0)) wz rfl (aj ?_)))))))
 rcases au hF with⟨hc_5,hF⟩|⟨hc_5,hF⟩
 ·refine aB rfl hc_5 (af (aa (ae (vI r_3) wz rfl (ae (vI r_3) wz rfl (aj ?_)))))
  obtain rfl:=ah hF
  exact aC (bv (.inr rfl) [(vI r_3)] ⟨rfl,trivial⟩ rfl rfl rfl)
 ·refine aA rfl hc_5 (ax (af (af (aa (aJ dX rfl 1 rfl wz (ay 0 0 il ft sz3 ag3 rfl rfl (vI wv_1.To) rfl wz (aJ fw rfl 0 rfl wz (ay 0 0 il ft sz3 ag3 rfl rfl (vI wv_1.From) rfl wz (ae (vI (w64 (wv_1.To-wv_1.From))) wz rfl (ae (vB (decide ((w64 (wv_1.To-wv_1.From))>34560000000))) wz rfl (aj ?_)))))))))))
  rcases au hF with⟨hc_6,hF⟩|⟨hc_6,hF⟩
  ·refine aB rfl hc_6 (af (aa (ae (vI 2) wz rfl (aj ?_))))
   obtain rfl:=ah hF
   exact aC (bv (.inr rfl) [(vI 2)] ⟨rfl,trivial⟩ rfl rfl rfl)
  ·refine aA rfl hc_6 (ax (af (aa (ae (vI 0) wz rfl (aj ?_)))))
   obtain rfl:=ah hF
   exact aC (bv (.inr rfl) [(vI 0)] ⟨rfl,trivial⟩ rfl rfl rfl)
theorem Aq {l_1:(List Int)} {r:Int} (hF:oZ l_1=some r) :
  FnM Tryz.prog 14 [(vL eI l_1)] [] (vI r) []:=by
 refine FnM.of_wH ⟨Tryz.prog,15,[],[]⟩ rfl Tryz.func14 rfl rfl (lb_ rfl) (by kernel_rfl) ?_
 unfold oZ at hF
 refine af (aa (ae (vI 0) wz rfl (aj (af (af (aa (ae (vL eI l_1) wz rfl (bX un76 rfl wz (ae (vI 0) wz rfl (aj ?_))))))))))
 obtain ⟨o_10,hj_11,hF⟩:=bind_some hF
 obtain ⟨hn_6,hj_11⟩:=bn hj_11
 refine aG (β:=(Unit)) (λ(s_7:Unit)=>([]:SL_)) (λ(s_7:Unit)=>([]:Hp)) (λp=>o_10 = .go p) ?_ ?_
 ·refine aD (aX (β:=Nat×(List Int)×(Unit)) (λp=>(λ(k_2:Nat) (l_3:List Int) (s_7:Unit)=>([(5,(vL eI l_1)),(6,(vI (l_1.length:Int))),(7,(vI (k_2:Int)))]:SL_)) p.1 p.2.1 p.2.2) (λp=>(λ(k_2:Nat) (l_3:List Int) (s_7:Unit)=>([]:Hp)) p.1 p.2.1 p.2.2) (λp=>dG (λk x s=>nD k x s) p.2.1 p.1 p.2.2=some o_10/\(l_1).drop p.1=p.2.1) (λp=>p.2.1.length) (0,l_1,()) ⟨hj_11,rfl⟩ rfl (aK rfl) ?_)
  rintro ⟨k_2,l_3,s_7⟩ ⟨hL_9,hD_5⟩
  dsimp only at hL_9 hD_5
  cases l_3 with
  | nil =>
   obtain rfl:=ah hL_9
   refine af (aa (ae (vB (decide ((k_2:Int)<(l_1.length:Int)))) wz rfl (aj ?_)))
   refine af (aA rfl (drop_nil hD_5) (aS ?_))
   exact aU (s_7) rfl rfl (aK rfl)
  | cons x_4 l_3 =>
   obtain ⟨c_,hc_8,hL_9⟩:=bind_some hL_9
   refine af (aa (ae (vB (decide ((k_2:Int)<(l_1.length:Int)))) wz rfl (aj ?_)))
   refine af (aB rfl (bE hD_5) (ax ?_))
   unfold nD at hc_8
   refine af (aD (af (aa (dL es76 rfl rfl (bL hD_5) rfl wz (bz sz43 ag43 rfl (vI x_4) rfl wz (ae (vI x_4) wz rfl (aj (af (aa (ae (vI x_4) wz rfl (ae (vB (x_4 != 0)) wz rfl (aj ?_))))))))))))
   rcases au hc_8 with⟨hc_12,hc_8⟩|⟨hc_12,hc_8⟩
   ·refine aB rfl hc_12 (af (aa (ae (vI x_4) wz rfl (ae (vI x_4) wz rfl (aj ?_)))))
    obtain rfl:=ah hc_8
    obtain rfl:=ah hL_9
    obtain rfl:=ah hF
    exact aC (bv (.inr rfl) [(vI x_4)] ⟨rfl,trivial⟩ rfl rfl rfl)
   ·refine aA rfl hc_12 (ax (aa (gm (bH hD_5 hn_6) wz rfl (ae (vI ((k_2+1:Nat):Int)) wz rfl (aj ?_)))))
    obtain rfl:=ah hc_8
    exact aO (k_2+1,l_3,()) ⟨hL_9,aP hD_5⟩ (ls_ _) rfl (aK rfl)
 ·rintro s_7 ho_ sl_ H_ hp_ hq_
  subst ho_
  refine aN _ hp_ hq_ (af (aa (ae (vI 0) wz rfl (aj ?_))))
  obtain rfl:=ah hF
  exact aC (bv (.inr rfl) [(vI 0)] ⟨rfl,trivial⟩ rfl rfl rfl)
theorem xc {e_1:Entry} {zone_2:Int} {d_3:Int} {r:Window} (hF:lD e_1 zone_2 d_3=some r) :
  FnM Tryz.prog 69 [(.d (.agg (Entry.enc e_1))),(vI zone_2),(vI d_3)] [] (.d (.agg (Window.enc r))) []:=by
 refine FnM.of_wH ⟨Tryz.prog,32,[],[]⟩ rfl Tryz.func69 rfl rfl (lb_ rfl) (by kernel_rfl) ?_
 unfold lD at hF
 refine af (aa (dZ 0 (.inl rfl) [(vS e_1.Key),(vS e_1.Item),(vI e_1.Version),(vI e_1.First),(vI e_1.Last),(vI e_1.Every),(vI e_1.Days),(vL eI e_1.Except),(vI e_1.From),(vI e_1.To),(vI e_1.Prio),(vL eS e_1.Tags),(vB e_1.Gone)] rfl rfl wz (λn_4=>bR 0 (.inl rfl) z33 rfl wz (λn_5=>aj (af (aa (aJ BV rfl 9 rfl wz (ay 0 0 il ft sz3 ag3 rfl rfl (vI e_1.To) rfl wz (ae (vI e_1.To) wz rfl (aj (af (af (aa (ae (vI e_1.To) wz rfl (aJ xK rfl 8 rfl wz (ay 0 0 il ft sz3 ag3 rfl rfl (vI e_1.From) rfl wz (ae (vB (decide (e_1.To<=e_1.From))) wz rfl (aj ?_))))))))))))))))))
 obtain ⟨v_6,h_7,hF⟩:=bind_some hF
 refine aG (β:=Unit) (λ_=>([(1,(vI zone_2)),(2,(vI d_3)),(3,(.ref n_4 0 0)),(6,(.ref n_5 0 0)),(7,(vI v_6))]:SL_)) (λ_=>([(n_4,some (.cells 13 [(vS e_1.Key),(vS e_1.Item),(vI e_1.Version),(vI e_1.First),(vI e_1.Last),(vI e_1.Every),(vI e_1.Days),(vL eI e_1.Except),(vI e_1.From),(vI e_1.To),(vI e_1.Prio),(vL eS e_1.Tags),(vB e_1.Gone)])),(n_5,some (.cells 2 [(vI 0),(vI 0)]))]:Hp)) (λ_=>True) ?_ ?_
 ·rcases au h_7 with⟨hc_8,h_7⟩|⟨hc_8,h_7⟩
  ·refine aB rfl hc_8 (aa (ae (vI e_1.To) wz rfl (ae (vI (w64 (e_1.To+1440))) wz rfl (ae (vI (w64 (e_1.To+1440))) wz rfl (aj ?_)))))
   obtain rfl:=ah h_7
   exact cu
  ·refine aA rfl hc_8 (ax ?_)
   obtain rfl:=ah h_7
   exact cu
 ·rintro ⟨⟩ _ sl_ H_ hp_ hq_
  refine aN _ hp_ hq_ (af (aa (ae (vI d_3) wz rfl (ae (vI (w64 (d_3*86400000))) wz rfl (ae (vI zone_2) wz rfl (ae (vI (w64 (zone_2*60000))) wz rfl (ae (vI (w64 ((w64 (d_3*86400000))-(w64 (zone_2*60000))))) wz rfl (ae (vI (w64 ((w64 (d_3*86400000))-(w64 (zone_2*60000))))) wz rfl (aj (af (aa (ae (vI (w64 ((w64 (d_3*86400000))-(w64 (zone_2*60000))))) wz rfl (aJ xK rfl 8 rfl wz (ay 0 0 il ft sz3 ag3 rfl rfl (vI e_1.From) rfl wz (ae (vI (w64 (e_1.From*60000))) wz rfl (ae (vI (w64 ((w64 ((w64 (d_3*86400000))-(w64 (zone_2*60000))))+(w64 (e_1.From*60000))))) wz rfl (ae (vI (w64 ((w64 (d_3*86400000))-(w64 (zone_2*60000))))) wz rfl (ae (vI v_6) wz rfl (ae (vI (w64 (v_6*60000))) wz rfl (ae (vI (w64 ((w64 ((w64 (d_3*86400000))-(w64 (zone_2*60000))))+(w64 (v_6*60000))))) wz rfl (ae (.d (.agg (Window.enc (⟨(w64 ((w64 ((w64 (d_3*86400000))-(w64 (zone_2*60000))))+(w64 (e_1.From*60000)))),(w64 ((w64 ((w64 (d_3*86400000))-(w64 (zone_2*60000))))+(w64 (v_6*60000))))⟩:Window)))) wz (by kernel_rfl) (eu 0 il ft 1 eP rfl rfl [(vI (w64 ((w64 ((w64 (d_3*86400000))-(w64 (zone_2*60000))))+(w64 (e_1.From*60000))))),(vI (w64 ((w64 ((w64 (d_3*86400000))-(w64 (zone_2*60000))))+(w64 (v_6*60000)))))] rfl wz (aj ?_)))))))))))))))))))))))
  obtain rfl:=ah hF
  exact aC (bv (.inr rfl) [(.d (.agg (Window.enc (⟨(w64 ((w64 ((w64 (d_3*86400000))-(w64 (zone_2*60000))))+(w64 (e_1.From*60000)))),(w64 ((w64 ((w64 (d_3*86400000))-(w64 (zone_2*60000))))+(w64 (v_6*60000))))⟩:Window))))] ⟨⟨1,_,_,_,_,_,_,_,rfl,rfl,eP,iO,rfl⟩,trivial⟩ rfl rfl rfl)
theorem tX {s_1:(List Int)} {v_2:Int} {r:Int} (hF:jJ s_1 v_2=some r) :
  FnM Tryz.prog 123 [(vL eI s_1),(vI v_2)] [] (vI r) []:=by
 refine FnM.of_wH ⟨Tryz.prog,19,[],[]⟩ rfl Tryz.func123 rfl rfl (lb_ rfl) (by kernel_rfl) ?_
 unfold jJ at hF
 refine af (aa (ae (vI 0) wz rfl (aj (af (af (aa (ae (vL eI s_1) wz rfl (bX nL rfl wz (ae (vI 0) wz rfl (aj ?_))))))))))
 obtain ⟨o_11,hj_12,hF⟩:=bind_some hF
 obtain ⟨hn_7,hj_12⟩:=bn hj_12
 refine aG (β:=(Unit)) (λ(s_8:Unit)=>([]:SL_)) (λ(s_8:Unit)=>([]:Hp)) (λp=>o_11 = .go p) ?_ ?_
 ·refine aD (aX (β:=Nat×(List Int)×(Unit)) (λp=>(λ(k_3:Nat) (l_4:List Int) (s_8:Unit)=>([(0,(vL eI s_1)),(1,(vI v_2)),(7,(vI (s_1.length:Int))),(8,(vI (k_3:Int)))]:SL_)) p.1 p.2.1 p.2.2) (λp=>(λ(k_3:Nat) (l_4:List Int) (s_8:Unit)=>([]:Hp)) p.1 p.2.1 p.2.2) (λp=>dG (λk x s=>fB v_2 k x s) p.2.1 p.1 p.2.2=some o_11/\(s_1).drop p.1=p.2.1) (λp=>p.2.1.length) (0,s_1,()) ⟨hj_12,rfl⟩ rfl (aK rfl) ?_)
  rintro ⟨k_3,l_4,s_8⟩ ⟨hL_10,hD_6⟩
  dsimp only at hL_10 hD_6
  cases l_4 with
  | nil =>
   obtain rfl:=ah hL_10
   refine af (aa (ae (vB (decide ((k_3:Int)<(s_1.length:Int)))) wz rfl (aj ?_)))
   refine af (aA rfl (drop_nil hD_6) (aS ?_))
   exact aU (s_8) rfl rfl (aK rfl)
  | cons x_5 l_4 =>
   obtain ⟨c_,hc_9,hL_10⟩:=bind_some hL_10
   refine af (aa (ae (vB (decide ((k_3:Int)<(s_1.length:Int)))) wz rfl (aj ?_)))
   refine af (aB rfl (bE hD_6) (ax ?_))
   unfold fB at hc_9
   refine af (aD (af (aa (ae (vI (k_3:Int)) wz rfl (ae (vI (k_3:Int)) wz rfl (aj (af (aa (ae (vI v_2) wz rfl (ae (vL eI s_1) wz rfl (ae (vI (k_3:Int)) wz rfl (dL iE rfl rfl (bL hD_6) rfl wz (bz sz3 ag3 rfl (vI x_5) rfl wz (ae (vB (v_2==x_5)) wz rfl (aj ?_)))))))))))))))
   rcases au hc_9 with⟨hc_13,hc_9⟩|⟨hc_13,hc_9⟩
   ·refine aB rfl hc_13 (af (aa (ae (vI (k_3:Int)) wz rfl (ae (vI (k_3:Int)) wz rfl (aj ?_)))))
    obtain rfl:=ah hc_9
    obtain rfl:=ah hL_10
    obtain rfl:=ah hF
    exact aC (bv (.inr rfl) [(vI (k_3:Int))] ⟨rfl,trivial⟩ rfl rfl rfl)
   ·refine aA rfl hc_13 (ax (aa (gm (bH hD_6 hn_7) wz rfl (ae (vI ((k_3+1:Nat):Int)) wz rfl (aj ?_)))))
    obtain rfl:=ah hc_9
    exact aO (k_3+1,l_4,()) ⟨hL_10,aP hD_6⟩ (ls_ _) rfl (aK rfl)
 ·rintro s_8 ho_ sl_ H_ hp_ hq_
  subst ho_
  refine aN _ hp_ hq_ (af (aa (ae (vI (-1)) wz rfl (aj ?_))))
  obtain rfl:=ah hF
  exact aC (bv (.inr rfl) [(vI (-1))] ⟨rfl,trivial⟩ rfl rfl rfl)
theorem qL {s_1:(List Int)} {v_2:Int} {r:Bool} (hF:gG s_1 v_2=some r) :
  FnM Tryz.prog 98 [(vL eI s_1),(vI v_2)] [] (vB r) []:=by
 refine FnM.of_wH ⟨Tryz.prog,9,[],[]⟩ rfl Tryz.func98 rfl rfl (lb_ rfl) (by kernel_rfl) ?_
 unfold gG at hF
 refine af (aa (ae (vB false) wz rfl (aj (af (aa (ae (vL eI s_1) wz rfl (ae (vI v_2) wz rfl ?_)))))))
 obtain ⟨r_3,hr_4,hF⟩:=bind_some hF
 refine aF (tX hr_4) rfl hb123 rfl rfl rfl rfl wz (ae (vB (decide (r_3>=0))) wz rfl (ae (vB (decide (r_3>=0))) wz rfl (aj ?_)))
 obtain rfl:=ah hF
 exact aC (bv (.inr rfl) [(vB (decide (r_3>=0)))] ⟨rfl,trivial⟩ rfl rfl rfl)
theorem yC {e_1:Entry} {d_2:Int} {r:Bool} (hF:lZ e_1 d_2=some r) :
  FnM Tryz.prog 70 [(.d (.agg (Entry.enc e_1))),(vI d_2)] [] (vB r) []:=by
 refine FnM.of_wH ⟨Tryz.prog,37,[],[]⟩ rfl Tryz.func70 rfl rfl (lb_ rfl) (by kernel_rfl) ?_
 unfold lZ at hF
 refine af (aa (dZ 0 (.inl rfl) [(vS e_1.Key),(vS e_1.Item),(vI e_1.Version),(vI e_1.First),(vI e_1.Last),(vI e_1.Every),(vI e_1.Days),(vL eI e_1.Except),(vI e_1.From),(vI e_1.To),(vI e_1.Prio),(vL eS e_1.Tags),(vB e_1.Gone)] rfl rfl wz (λn_3=>ae (vB false) wz rfl (aj (af ?_)))))
 obtain ⟨v_4,h_5,hF⟩:=bind_some hF
 refine aG (β:=Unit) (λ_=>([(4,(vB v_4))]:SL_)) (λ_=>([(n_3,some (.cells 13 [(vS e_1.Key),(vS e_1.Item),(vI e_1.Version),(vI e_1.First),(vI e_1.Last),(vI e_1.Every),(vI e_1.Days),(vL eI e_1.Except),(vI e_1.From),(vI e_1.To),(vI e_1.Prio),(vL eS e_1.Tags),(vB e_1.Gone)]))]:Hp)) (λ_=>True) ?_ ?_
 ·refine aa (ae (vI d_2) wz rfl (aJ rf rfl 3 rfl wz (ay 0 0 il ft sz3 ag3 rfl rfl (vI e_1.First) rfl wz (aJ qV rfl 4 rfl wz (ay 0 0 il ft sz3 ag3 rfl rfl (vI e_1.Last) rfl wz ?_)))))
  obtain ⟨r_6,hr_7,h_5⟩:=bind_some h_5
  refine aF (jH hr_7) rfl AY rfl rfl rfl rfl wz ?_
  rcases au h_5 with⟨hc_8,h_5⟩|⟨hc_8,h_5⟩
  ·refine aH rfl hc_8 wz (ae (vI d_2) wa rfl (aJ rf rfl 3 rfl wa (ay 0 0 il ft sz3 ag3 rfl rfl (vI e_1.First) rfl wa (ae (vI (w64 (d_2-e_1.First))) wa rfl (aJ Cb rfl 5 rfl wa (ay 0 0 il ft sz3 ag3 rfl rfl (vI e_1.Every) rfl wa ?_))))))
   obtain ⟨q_9,hz_10,h_5⟩:=bind_some h_5
   refine Ga rfl rfl hz_10 wa (ae (vB (q_9==0)) wa rfl (ae (vB (q_9==0)) wz rfl ?_))
   rcases au h_5 with⟨hc_11,h_5⟩|⟨hc_11,h_5⟩
   ·refine aH rfl hc_11 wz (aJ BB rfl 6 rfl wa (ay 0 0 il ft sz3 ag3 rfl rfl (vI e_1.Days) rfl wa (ae (vI d_2) wa rfl (ae (vI (d_2.tmod 7)) wa rfl ?_))))
    obtain ⟨q_12,hz_13,h_5⟩:=bind_some h_5
    refine Ep rfl rfl hz_13 wa (ae (vI (wX .i64 q_12 1)) wa rfl (ae (vB ((wX .i64 q_12 1)==1)) wa rfl (ae (vB ((wX .i64 q_12 1)==1)) wz rfl ?_)))
    rcases au h_5 with⟨hc_14,h_5⟩|⟨hc_14,h_5⟩
    ·refine aH rfl hc_14 wz (aJ rT rfl 7 rfl wa (ay 0 0 il ft qw sH rfl rfl (vL eI e_1.Except) rfl wa (ae (vI d_2) wa rfl ?_)))
     obtain ⟨r_15,hr_16,h_5⟩:=bind_some h_5
     refine aF (qL hr_16) rfl hb98 rfl rfl rfl rfl wa (ae (vB (!r_15)) wa rfl (ae (vB (!r_15)) wz rfl (ae (vB (!r_15)) wz rfl (aj ?_))))
     obtain rfl:=ah h_5
     exact cu
    ·refine aH rfl hc_14 wz (ak wa (ak wa (ak wa (ak wa (ak wa (ae (vB false) wz rfl (ae (vB false) wz rfl (aj ?_))))))))
     obtain rfl:=ah h_5
     exact cu
   ·refine aH rfl hc_11 wz (ak wa (ak wa (ak wa (ak wa (ak wa (ak wa (ak wa (ae (vB false) wz rfl (ae (vB false) wz rfl (ak wa (ak wa (ak wa (ak wa (ak wa (ae (vB false) wz rfl (ae (vB false) wz rfl (aj ?_)))))))))))))))))
    obtain rfl:=ah h_5
    exact cu
  ·refine aH rfl hc_8 wz (ak wa (ak wa (ak wa (ak wa (ak wa (ak wa (ak wa (ak wa (ae (vB false) wz rfl (ae (vB false) wz rfl (ak wa (ak wa (ak wa (ak wa (ak wa (ak wa (ak wa (ae (vB false) wz rfl (ae (vB false) wz rfl (ak wa (ak wa (ak wa (ak wa ?_)))))))))))))))))))))))
   refine ak wa (ae (vB false) wz rfl (ae (vB false) wz rfl (aj ?_)))
   obtain rfl:=ah h_5
   exact cu
 ·rintro ⟨⟩ _ sl_ H_ hp_ hq_
  refine aN _ hp_ hq_ ?_
  obtain rfl:=ah hF
  exact aC (bv (.inr rfl) [(vB v_4)] ⟨rfl,trivial⟩ rfl rfl rfl)
theorem qB {e_1:Entry} {zone_2:Int} {wv_3:Window} {r:(List Window)} (hF:kz e_1 zone_2 wv_3=some r) :
  FnM Tryz.prog 47 [(.d (.agg (Entry.enc e_1))),(vI zone_2),(.d (.agg (Window.enc wv_3)))] [] (vL Window.enc r) []:=by
 refine FnM.of_wH ⟨Tryz.prog,54,[],[]⟩ rfl Tryz.func47 rfl rfl (lb_ rfl) (by kernel_rfl) ?_
 unfold kz at hF
 refine af (aa (dZ 0 (.inl rfl) [(vS e_1.Key),(vS e_1.Item),(vI e_1.Version),(vI e_1.First),(vI e_1.Last),(vI e_1.Every),(vI e_1.Days),(vL eI e_1.Except),(vI e_1.From),(vI e_1.To),(vI e_1.Prio),(vL eS e_1.Tags),(vB e_1.Gone)] rfl rfl wz (λn_4=>dZ 0 (.inl rfl) [(vI wv_3.From),(vI wv_3.To)] rfl rfl wz (λn_5=>ae .nil wz rfl (aj (af (aa (ae .nil wz rfl (aj (af (af (aa (aJ rf rfl 3 rfl wz (ay 0 0 il ft sz3 ag3 rfl rfl (vI e_1.First) rfl wz (ae (vI e_1.First) wz rfl (aj (lq (λn_12 => ?_))))))))))))))))))
 obtain ⟨o_17,hj_18,hF⟩:=bind_some hF
 obtain ⟨nq_36,hj_18⟩:=ek hj_18
 refine aG (β:=((List Window)×Int)×Nm) (λp=>(λ(s_11:(List Window)×Int) (n_14:Nm)=>([(7,(gV n_14 2 s_11.1))]:SL_)) p.1 p.2) (λp=>(λ(s_11:(List Window)×Int) (n_14:Nm)=>([(n_4,some (.cells 13 [(vS e_1.Key),(vS e_1.Item),(vI e_1.Version),(vI e_1.First),(vI e_1.Last),(vI e_1.Every),(vI e_1.Days),(vL eI e_1.Except),(vI e_1.From),(vI e_1.To),(vI e_1.Prio),(vL eS e_1.Tags),(vB e_1.Gone)])),(n_5,some (.cells 2 [(vI wv_3.From),(vI wv_3.To)])),(n_14,gB 2 Window.enc s_11.1)]:Hp)) p.1 p.2) (λp=>o_17 = .go p.1) ?_ ?_
 ·refine aD (aX (β:=Nat×((List Window)×Int)×Nm) (λp=>(λ(k_6:Nat) (s_11:(List Window)×Int) (n_14:Nm)=>([(1,(vI zone_2)),(3,(.ref n_4 0 0)),(5,(.ref n_5 0 0)),(7,(gV n_14 2 s_11.1)),(8,(vI s_11.2))]:SL_)) p.1 p.2.1 p.2.2) (λp=>(λ(k_6:Nat) (s_11:(List Window)×Int) (n_14:Nm)=>([(n_4,some (.cells 13 [(vS e_1.Key),(vS e_1.Item),(vI e_1.Version),(vI e_1.First),(vI e_1.Last),(vI e_1.Every),(vI e_1.Days),(vL eI e_1.Except),(vI e_1.From),(vI e_1.To),(vI e_1.Prio),(vL eS e_1.Tags),(vB e_1.Gone)])),(n_5,some (.cells 2 [(vI wv_3.From),(vI wv_3.To)])),(n_14,gB 2 Window.enc s_11.1)]:Hp)) p.1 p.2.1 p.2.2) (λp=>cO (λs=>kg e_1 zone_2 wv_3 s) p.1 p.2.1=some o_17) (λp=>p.1) (nq_36,(([]:List Window),e_1.First),n_12) hj_18 rfl (aK rfl) ?_)
  rintro ⟨k_6,s_11,n_14⟩ hL_16
  dsimp only at hL_16
  cases k_6 with
  | zero=>cases hL_16
  | succ k_6 =>
   obtain ⟨c_,hc_15,hL_16⟩:=bind_some hL_16
   unfold kg at hc_15
   refine af (af (aa (ae (vI s_11.2) wz rfl (aJ qV rfl 4 rfl wz (ay 0 0 il ft sz3 ag3 rfl rfl (vI e_1.Last) rfl wz (ae (vB (decide (s_11.2<=e_1.Last))) wz rfl (aj ?_)))))))
   rcases au hc_15 with⟨hc_19,hc_15⟩|⟨hc_19,hc_15⟩
   ·refine aB rfl hc_19 (ax (af (aD (af (aa (ay 0 0 il ft gK jR rfl rfl (.d (.agg (Entry.enc e_1))) rfl wz (ae (vI zone_2) wz rfl (ae (vI s_11.2) wz rfl ?_))))))))
    obtain ⟨r_20,hr_21,hc_15⟩:=bind_some hc_15
    refine aF (xc hr_21) rfl hb69 rfl rfl rfl rfl wz (bR 0 (.inl rfl) z33 rfl wz (λn_22=>eu 0 il ft 3 eP rfl rfl [(vI r_20.From),(vI r_20.To)] rfl wz (aj (af (bN (aJ fw rfl 0 rfl wz (ay 1 3 (.inr (by kernel_rfl)) (λ_ _ ag=>trivial) sz3 ag3 rfl rfl (vI r_20.From) rfl wz (aJ fw rfl 0 rfl wz (ay 3 1 (.inr (by kernel_rfl)) (λ_ _ ag=>⟨.inl ⟨rfl,rfl⟩,trivial⟩) sz3 ag3 rfl rfl (vI wv_3.From) rfl wz (mJ (vI (jw r_20.From wv_3.From)) rfl (.inr rfl) wz (aJ dX rfl 1 rfl wz (ay 6 3 (.inr (by kernel_rfl)) (λ_ _ ag=>⟨.inl ⟨rfl,rfl⟩,⟨.inl ⟨rfl,rfl⟩,trivial⟩⟩) sz3 ag3 rfl rfl (vI r_20.To) rfl wz (aJ dX rfl 1 rfl wz (ay 8 1 (.inr (by kernel_rfl)) (λ_ _ ag=>⟨.inl ⟨rfl,rfl⟩,⟨.inl ⟨rfl,rfl⟩,⟨.inl ⟨rfl,rfl⟩,trivial⟩⟩⟩) sz3 ag3 rfl rfl (vI wv_3.To) rfl wz (mJ (vI (jB r_20.To wv_3.To)) rfl (.inl rfl) wz (aJ fw rfl 0 rfl wz (eu 11 (.inr (by kernel_rfl)) (λ_ _ ag=>⟨.inr (.inr (by kernel_rfl)),⟨.inr (.inr (by kernel_rfl)),⟨.inr (.inr (by kernel_rfl)),⟨.inr (.inl (KH (Ez ag (i:=3) (j:=1) rfl rfl (by decide)))),trivial⟩⟩⟩⟩) 3 sz3 rfl rfl [(vI (jw r_20.From wv_3.From)),(vI r_20.To)] rfl wz (aJ dX rfl 1 rfl wz (eu 13 (.inr (by kernel_rfl)) (λ_ _ ag=>⟨.inr (.inr (by kernel_rfl)),⟨.inr (.inr (by kernel_rfl)),⟨.inr (.inr (by kernel_rfl)),⟨.inr (.inr (by kernel_rfl)),⟨.inr (.inr (by kernel_rfl)),trivial⟩⟩⟩⟩⟩) 3 sz3 rfl rfl [(vI (jw r_20.From wv_3.From)),(vI (jB r_20.To wv_3.To))] rfl wz (aj (af ?_)))))))))))))))))))))
    obtain ⟨v_23,h_24,hc_15⟩:=bind_some hc_15
    refine aG (β:=Unit) (λ_=>([(1,(vI zone_2)),(3,(.ref n_4 0 0)),(5,(.ref n_5 0 0)),(7,(gV n_14 2 s_11.1)),(8,(vI s_11.2)),(9,(.ref n_22 0 0)),(48,(vB v_23))]:SL_)) (λ_=>([(n_4,some (.cells 13 [(vS e_1.Key),(vS e_1.Item),(vI e_1.Version),(vI e_1.First),(vI e_1.Last),(vI e_1.Every),(vI e_1.Days),(vL eI e_1.Except),(vI e_1.From),(vI e_1.To),(vI e_1.Prio),(vL eS e_1.Tags),(vB e_1.Gone)])),(n_5,some (.cells 2 [(vI wv_3.From),(vI wv_3.To)])),(n_14,gB 2 Window.enc s_11.1),(n_22,some (.cells 2 [(vI (jw r_20.From wv_3.From)),(vI (jB r_20.To wv_3.To))]))]:Hp)) (λ_=>True) ?_ ?_
    ·refine aa (aJ Bh rfl 12 rfl wz (ay 0 0 il ft sz4 ag4 rfl rfl (vB e_1.Gone) rfl wz (ae (vB (!e_1.Gone)) wz rfl ?_)))
     rcases au h_24 with⟨hc_25,h_24⟩|⟨hc_25,h_24⟩
     ·refine aH rfl hc_25 wz (ay 0 0 il ft gK jR rfl rfl (.d (.agg (Entry.enc e_1))) rfl wa (ae (vI s_11.2) wa rfl ?_))
      obtain ⟨r_26,hr_27,h_24⟩:=bind_some h_24
      refine aF (yC hr_27) rfl hb70 rfl rfl rfl rfl wa (ae (vB r_26) wz rfl ?_)
      rcases au h_24 with⟨hc_28,h_24⟩|⟨hc_28,h_24⟩
      ·refine aH rfl hc_28 wz (aJ fw rfl 0 rfl wa (ay 0 3 il ft sz3 ag3 rfl rfl (vI (jw r_20.From wv_3.From)) rfl wa (aJ dX rfl 1 rfl wa (ay 0 3 il ft sz3 ag3 rfl rfl (vI (jB r_20.To wv_3.To)) rfl wa (ae (vB (decide ((jw r_20.From wv_3.From)<(jB r_20.To wv_3.To)))) wa rfl (ae (vB (decide ((jw r_20.From wv_3.From)<(jB r_20.To wv_3.To)))) wz rfl (aj ?_)))))))
       obtain rfl:=ah h_24
       exact cu
      ·refine aH rfl hc_28 wz (ak wa (ak wa (ak wa (ak wa (ak wa (ae (vB false) wz rfl (aj ?_)))))))
       obtain rfl:=ah h_24
       exact cu
     ·refine aH rfl hc_25 wz (ak wa (ak wa (ak wa (ae (vB false) wz rfl (ae (vB false) wz rfl (ak wa (ak wa (ak wa (ak wa (ak wa (ae (vB false) wz rfl (aj ?_))))))))))))
      obtain rfl:=ah h_24
      exact cu
    ·rintro ⟨⟩ _ sl_ H_ hp_ hq_
     refine aN _ hp_ hq_ ?_
     obtain ⟨v_29,h_30,hc_15⟩:=bind_some hc_15
     refine aG (β:=Nm) (λ(n_31:Nm)=>([(1,(vI zone_2)),(3,(.ref n_4 0 0)),(5,(.ref n_5 0 0)),(7,(gV n_31 2 v_29)),(8,(vI s_11.2))]:SL_)) (λ(n_31:Nm)=>([(n_4,some (.cells 13 [(vS e_1.Key),(vS e_1.Item),(vI e_1.Version),(vI e_1.First),(vI e_1.Last),(vI e_1.Every),(vI e_1.Days),(vL eI e_1.Except),(vI e_1.From),(vI e_1.To),(vI e_1.Prio),(vL eS e_1.Tags),(vB e_1.Gone)])),(n_5,some (.cells 2 [(vI wv_3.From),(vI wv_3.To)])),(n_31,gB 2 Window.enc v_29),(n_22,some (.cells 2 [(vI (jw r_20.From wv_3.From)),(vI (jB r_20.To wv_3.To))]))]:Hp)) (λ_=>True) ?_ ?_
     ·rcases au h_30 with⟨hc_32,h_30⟩|⟨hc_32,h_30⟩
      ·refine aB rfl hc_32 (aa (ae (gV n_14 2 s_11.1) wz rfl (ay 0 3 il ft eP iO rfl rfl (.d (.agg (Window.enc (⟨(jw r_20.From wv_3.From),(jB r_20.To wv_3.To)⟩:Window)))) rfl wz (dW (([(⟨(jw r_20.From wv_3.From),(jB r_20.To wv_3.To)⟩:Window)]:List Window).map Window.enc) qQ LY rfl rfl rfl rfl rfl wz ?_))))
       obtain ⟨a_33,hz_34,h_30⟩:=bind_some h_30
       refine mq 0 il ft (i:=2) Dn Dn eP z33 rfl (by decide) L9 (by decide) (λ_=>rfl) rfl rfl rfl hz_34 wz (λn_35=>ae (gV n_35 2 a_33) wz rfl (aj ?_))
       obtain rfl:=ah h_30
       exact aU n_35 trivial rfl (aK rfl)
      ·refine aA rfl hc_32 (ax ?_)
       obtain rfl:=ah h_30
       exact aU n_14 trivial rfl (aK rfl)
     ·rintro n_31 _ sl_ H_ hp_ hq_
      refine aN _ hp_ hq_ (aa (ae (vI s_11.2) wz rfl (ae (vI (w64 (s_11.2+1))) wz rfl (ae (vI (w64 (s_11.2+1))) wz rfl (aj ?_)))))
      obtain rfl:=ah hc_15
      exact aO (k_6,(v_29,(w64 (s_11.2+1))),n_31) hL_16 (ls_ _) rfl (aK rfl)
   ·refine aA rfl hc_19 (aS ?_)
    obtain rfl:=ah hc_15
    obtain rfl:=ah hL_16
    exact aU ((s_11.1,s_11.2),n_14) rfl rfl (aK rfl)
 ·rintro ⟨s_11,n_14⟩ ho_ sl_ H_ hp_ hq_
  subst ho_
  refine aN _ hp_ hq_ (af (aa (ae (gV n_14 2 s_11.1) wz rfl (ae (gV n_14 2 s_11.1) wz rfl (aj (gX 2 rfl (dY 6 2 rfl rfl (dY 7 2 rfl rfl (dY 53 2 rfl rfl ?_)))))))))
  obtain rfl:=ah hF
  exact aC (bv (.inr rfl) [(vL Window.enc s_11.1)] ⟨rfl,trivial⟩ rfl rfl rfl)
theorem xq {l_1:(List Entry)} {zone_2:Int} {wv_3:Window} {r:(List Int)} (hF:oF l_1 zone_2 wv_3=some r) :
  FnM Tryz.prog 43 [(vL Entry.enc l_1),(vI zone_2),(.d (.agg (Window.enc wv_3)))] [] (vL eI r) []:=by
 refine FnM.of_wH ⟨Tryz.prog,45,[16],[]⟩ rfl Tryz.func43 rfl rfl (lb_ rfl) (by kernel_rfl) ?_
 unfold oF at hF
 refine af (aa (dZ 0 (.inl rfl) [(vI wv_3.From),(vI wv_3.To)] rfl rfl wz (λn_4=>ae .nil wz rfl (aj (af (aa (aJ fw rfl 0 rfl wz (ay 0 0 il ft sz3 ag3 rfl rfl (vI wv_3.From) rfl wz (aJ dX rfl 1 rfl wz (ay 0 0 il ft sz3 ag3 rfl rfl (vI wv_3.To) rfl wz (M6 0 (.inl rfl) (([wv_3.From,wv_3.To]:List Int).map eI) iE pW rfl rfl rfl rfl rfl wz (λn_5=>ae (vV n_5 1 ([wv_3.From,wv_3.To]:List Int)) wz rfl (aj (af (af (aa (ae (vL Entry.enc l_1) wz rfl (bX qb rfl wz (ae (vI 0) wz rfl (aj ?_))))))))))))))))))))
 obtain ⟨o_16,hj_17,hF⟩:=bind_some hF
 obtain ⟨hn_10,hj_17⟩:=bn hj_17
 refine aG (β:=((List Int))×Nm) (λp=>(λ(s_11:List Int) (n_13:Nm)=>([(7,(vV n_13 1 s_11))]:SL_)) p.1 p.2) (λp=>(λ(s_11:List Int) (n_13:Nm)=>([(n_4,some (.cells 2 [(vI wv_3.From),(vI wv_3.To)])),(n_13,some (bV 1 eI s_11))]:Hp)) p.1 p.2) (λp=>o_16 = .go p.1) ?_ ?_
 ·refine aD (aX (β:=Nat×(List Entry)×((List Int))×Nm) (λp=>(λ(k_6:Nat) (l_7:List Entry) (s_11:List Int) (n_13:Nm)=>([(1,(vI zone_2)),(5,(.ref n_4 0 0)),(7,(vV n_13 1 s_11)),(17,(vL Entry.enc l_1)),(18,(vI (l_1.length:Int))),(19,(vI (k_6:Int)))]:SL_)) p.1 p.2.1 p.2.2.1 p.2.2.2) (λp=>(λ(k_6:Nat) (l_7:List Entry) (s_11:List Int) (n_13:Nm)=>([(n_4,some (.cells 2 [(vI wv_3.From),(vI wv_3.To)])),(n_13,some (bV 1 eI s_11))]:Hp)) p.1 p.2.1 p.2.2.1 p.2.2.2) (λp=>dG (λk x s=>kZ zone_2 wv_3 k x s) p.2.1 p.1 p.2.2.1=some o_16/\(l_1).drop p.1=p.2.1) (λp=>p.2.1.length) (0,l_1,([wv_3.From,wv_3.To]:List Int),n_5) ⟨hj_17,rfl⟩ rfl (aK rfl) ?_)
  rintro ⟨k_6,l_7,s_11,n_13⟩ ⟨hL_15,hD_9⟩
  dsimp only at hL_15 hD_9
  cases l_7 with
  | nil =>
   obtain rfl:=ah hL_15
   refine af (aa (ae (vB (decide ((k_6:Int)<(l_1.length:Int)))) wz rfl (aj ?_)))
   refine af (aA rfl (drop_nil hD_9) (aS ?_))
   exact aU (s_11,n_13) rfl rfl (aK rfl)
  | cons x_8 l_7 =>
   obtain ⟨c_,hc_14,hL_15⟩:=bind_some hL_15
   refine af (aa (ae (vB (decide ((k_6:Int)<(l_1.length:Int)))) wz rfl (aj ?_)))
   refine af (aB rfl (bE hD_9) (ax ?_))
   unfold kZ at hc_14
   refine af (aD (af (aa (dL mE rfl rfl (bL hD_9) rfl wz (bz gK jR rfl (.d (.agg (Entry.enc x_8))) rfl wz (bR 0 (.inl rfl) z38 rfl wz (λn_18=>eu 0 il ft 2 gK rfl rfl [(vS x_8.Key),(vS x_8.Item),(vI x_8.Version),(vI x_8.First),(vI x_8.Last),(vI x_8.Every),(vI x_8.Days),(vL eI x_8.Except),(vI x_8.From),(vI x_8.To),(vI x_8.Prio),(vL eS x_8.Tags),(vB x_8.Gone)] rfl wz (aj (af (aa (ay 0 2 il ft gK jR rfl rfl (.d (.agg (Entry.enc x_8))) rfl wz (ae (vI zone_2) wz rfl (ay 0 0 il ft eP iO rfl rfl (.d (.agg (Window.enc wv_3))) rfl wz ?_)))))))))))))
   obtain ⟨r_19,hr_20,hc_14⟩:=bind_some hc_14
   refine aF (qB hr_20) rfl hb47 rfl rfl rfl rfl wz (bX zg rfl wz (ae (vI 0) wz rfl (aj ?_)))
   obtain ⟨o_31,hj_32,hc_14⟩:=bind_some hc_14
   obtain ⟨hn_25,hj_32⟩:=bn hj_32
   refine aG (β:=((List Int))×Nm) (λp=>(λ(s_26:List Int) (n_28:Nm)=>([(1,(vI zone_2)),(5,(.ref n_4 0 0)),(7,(vV n_28 1 s_26)),(17,(vL Entry.enc l_1)),(18,(vI (l_1.length:Int))),(19,(vI (k_6:Int)))]:SL_)) p.1 p.2) (λp=>(λ(s_26:List Int) (n_28:Nm)=>([(n_4,some (.cells 2 [(vI wv_3.From),(vI wv_3.To)])),(n_28,some (bV 1 eI s_26)),(n_18,some (.cells 13 [(vS x_8.Key),(vS x_8.Item),(vI x_8.Version),(vI x_8.First),(vI x_8.Last),(vI x_8.Every),(vI x_8.Days),(vL eI x_8.Except),(vI x_8.From),(vI x_8.To),(vI x_8.Prio),(vL eS x_8.Tags),(vB x_8.Gone)]))]:Hp)) p.1 p.2) (λp=>o_31 = .go p.1) ?_ ?_
   ·refine aD (aX (β:=Nat×(List Window)×((List Int))×Nm) (λp=>(λ(k_21:Nat) (l_22:List Window) (s_26:List Int) (n_28:Nm)=>([(1,(vI zone_2)),(5,(.ref n_4 0 0)),(7,(vV n_28 1 s_26)),(17,(vL Entry.enc l_1)),(18,(vI (l_1.length:Int))),(19,(vI (k_6:Int))),(26,(vL Window.enc r_19)),(27,(vI (r_19.length:Int))),(28,(vI (k_21:Int)))]:SL_)) p.1 p.2.1 p.2.2.1 p.2.2.2) (λp=>(λ(k_21:Nat) (l_22:List Window) (s_26:List Int) (n_28:Nm)=>([(n_4,some (.cells 2 [(vI wv_3.From),(vI wv_3.To)])),(n_28,some (bV 1 eI s_26)),(n_18,some (.cells 13 [(vS x_8.Key),(vS x_8.Item),(vI x_8.Version),(vI x_8.First),(vI x_8.Last),(vI x_8.Every),(vI x_8.Days),(vL eI x_8.Except),(vI x_8.From),(vI x_8.To),(vI x_8.Prio),(vL eS x_8.Tags),(vB x_8.Gone)]))]:Hp)) p.1 p.2.1 p.2.2.1 p.2.2.2) (λp=>dG (λk x s=>mG k x s) p.2.1 p.1 p.2.2.1=some o_31/\(r_19).drop p.1=p.2.1) (λp=>p.2.1.length) (0,r_19,s_11,n_13) ⟨hj_32,rfl⟩ rfl (aK rfl) ?_)
    rintro ⟨k_21,l_22,s_26,n_28⟩ ⟨hL_30,hD_24⟩
    dsimp only at hL_30 hD_24
    cases l_22 with
    | nil =>
     obtain rfl:=ah hL_30
     refine af (aa (ae (vB (decide ((k_21:Int)<(r_19.length:Int)))) wz rfl (aj ?_)))
     refine af (aA rfl (drop_nil hD_24) (aS ?_))
     exact aU (s_26,n_28) rfl rfl (aK rfl)
    | cons x_23 l_22 =>
     obtain ⟨c_,hc_29,hL_30⟩:=bind_some hL_30
     refine af (aa (ae (vB (decide ((k_21:Int)<(r_19.length:Int)))) wz rfl (aj ?_)))
     refine af (aB rfl (bE hD_24) (ax ?_))
     unfold mG at hc_29
     refine af (aD (af (aa (dL qQ rfl rfl (bL hD_24) rfl wz (bz eP iO rfl (.d (.agg (Window.enc x_23))) rfl wz (bR 0 (.inl rfl) z33 rfl wz (λn_33=>eu 0 il ft 3 eP rfl rfl [(vI x_23.From),(vI x_23.To)] rfl wz (aj (aa (ae (vV n_28 1 s_26) wz rfl (aJ fw rfl 0 rfl wz (ay 0 3 il ft sz3 ag3 rfl rfl (vI x_23.From) rfl wz (aJ dX rfl 1 rfl wz (ay 0 3 il ft sz3 ag3 rfl rfl (vI x_23.To) rfl wz (dW (([x_23.From,x_23.To]:List Int).map eI) iE pW rfl rfl rfl rfl rfl wz ?_)))))))))))))))
     obtain ⟨a_34,hz_35,hc_29⟩:=bind_some hc_29
     refine Jr 0 il ft (i:=1) wP wP sz3 z3 rfl (by decide) by3 (by decide) (λ_=>rfl) rfl rfl rfl hz_35 wz (λn_36=>ae (vV n_36 1 a_34) wz rfl (aj (aa (gm (bH hD_24 hn_25) wz rfl (ae (vI ((k_21+1:Nat):Int)) wz rfl (aj ?_))))))
     obtain rfl:=ah hc_29
     exact aO (k_21+1,l_22,a_34,n_36) ⟨hL_30,aP hD_24⟩ (ls_ _) rfl (aK rfl)
   ·rintro ⟨s_26,n_28⟩ ho_ sl_ H_ hp_ hq_
    subst ho_
    refine aN _ hp_ hq_ (aa (gm (bH hD_9 hn_10) wz rfl (ae (vI ((k_6+1:Nat):Int)) wz rfl (aj ?_))))
    obtain rfl:=ah hc_14
    exact aO (k_6+1,l_7,s_26,n_28) ⟨hL_15,aP hD_9⟩ (ls_ _) rfl (aK rfl)
 ·rintro ⟨s_11,n_13⟩ ho_ sl_ H_ hp_ hq_
  subst ho_
  refine aN _ hp_ hq_ (af (aa (ae (vV n_13 1 s_11) wz rfl ?_)))
  obtain ⟨_,hn_37,hF⟩:=bind_some hF
  replace hn_37:=FM hn_37
  refine Eg 1 rfl (zh hn_37).symm (bQ (v':=(gV n_13 1 s_11)) 41 rfl (Ke hn_37) (bQ (v':=(gV n_13 1 s_11)) 7 rfl (Ke hn_37) ?_))
  obtain ⟨r_38,hr_39,hF⟩:=bind_some hF
  obtain ⟨_,hs_40,hF⟩:=bind_some hF
  replace hs_40:=qi hs_40
  refine nQ 0 [] 1 0 il ft (jF hr_39) rfl hb44 rfl rfl rfl (by kernel_rfl) rfl (.inl rfl) rfl (by kernel_rfl) (by kernel_rfl) (by kernel_rfl) (by kernel_rfl) rfl (by decide) (by kernel_rfl) tY (Ap hs_40) wz ([(n_4,some (.cells 2 [(vI wv_3.From),(vI wv_3.To)])),(n_13,gB 1 eI r_38)]:Hp) (by kernel_rfl) (bQ (v':=(gV n_13 1 r_38)) 41 rfl (bI hs_40.symm) (bQ (v':=(gV n_13 1 r_38)) 7 rfl (bI hs_40.symm) (aj (af (aa (ae (gV n_13 1 r_38) wz rfl ?_))))))
  obtain ⟨r_41,hr_42,hF⟩:=bind_some hF
  refine nQ 0 [] 1 0 il ft (ji hr_42) rfl hb45 rfl rfl rfl (by kernel_rfl) rfl (.inl rfl) rfl (by kernel_rfl) (by kernel_rfl) (by kernel_rfl) (by kernel_rfl) rfl (by decide) (by kernel_rfl) vY (λ_=>rfl) wz ([(n_4,some (.cells 2 [(vI wv_3.From),(vI wv_3.To)])),(n_13,none)]:Hp) (by kernel_rfl) (ae (vL eI r_41) wz rfl (aj ?_))
  obtain rfl:=ah hF
  exact aC (bv (.inr rfl) [(vL eI r_41)] ⟨rfl,trivial⟩ rfl rfl rfl)
theorem rW {n_1:Int} {r:Bool} (hF:iC n_1=some r) :
  FnM Tryz.prog 65 [.nil,(vI n_1)] [] (kV r (av 0) 1 ([]:List Int)) (kO r 1):=by
 refine FnM.of_wH ⟨Tryz.prog,27,[],[]⟩ rfl Tryz.func65 rfl rfl (lb_ rfl) (by kernel_rfl) ?_
 unfold iC at hF
 refine af (aa (ae .nil wz rfl (aj (af (af (aa (ae (vI n_1) wz rfl (ae (vB (decide (n_1<0))) wz rfl (aj ?_)))))))))
 rcases au hF with⟨hc_2,hF⟩|⟨hc_2,hF⟩
 ·refine aB rfl hc_2 (aa ?_)
  cases hF
 ·refine aA rfl hc_2 (ax (af (af (aa (ae (vI n_1) wz rfl (ae .nil wz rfl (Le wP rfl wz (ae .nil wz rfl (Jg nL rfl wz (ae (vI (w64 (0-0))) wz rfl (ae (vI (w64 (n_1-(w64 (0-0))))) wz rfl (ae (vI (w64 (n_1-(w64 (0-0))))) wz rfl (aj (af (aa (ae (vI (w64 (n_1-(w64 (0-0))))) wz rfl (ae (vB (decide ((w64 (n_1-(w64 (0-0))))>0))) wz rfl (aj ?_))))))))))))))))))
  rcases au hF with⟨hc_3,hF⟩|⟨hc_3,hF⟩
  ·refine aB rfl hc_3 (aa (ae .nil wz rfl (ae .nil wz rfl (Le wP rfl wz (ae .nil wz (by kernel_rfl) (ae (vI (w64 (n_1-(w64 (0-0))))) wz rfl ?_))))))
   obtain ⟨_,hz_5,hF⟩:=bind_some hF
   refine h_appz (enc:=eI) 0 (.inl rfl) wP (by kernel_rfl) sz3 z3 rfl (by decide) by3 rfl rfl hz_5 wz (λn_4=>ae .nil wz rfl (Jg nL rfl wz (h_cutm (m:=0) nL sz3 rfl rfl rfl (Nat.zero_le _) wz (ae (.vs n_4 1 0 0) wz rfl (aj (af (aa (ae (.vs n_4 1 0 0) wz rfl (ae (.vs n_4 1 0 0) wz rfl (aj ?_))))))))))
   obtain rfl:=ah hF
   exact aC (finK (.inr rfl) 0 rfl rfl)
  ·refine aA rfl hc_3 (ax (af (aa (ae .nil wz rfl (ae .nil wz rfl (aj ?_))))))
   obtain rfl:=ah hF
   exact aC (finK0 (.inr rfl) rfl)
theorem qc {slices_1:(List (List Int))} {r:(List Int)} (hF:gJ slices_1=some r) :
  FnM Tryz.prog 42 [(vL (eL eI) slices_1)] [] (gV (av 0) 1 r) (([]:List Box).map some++gO 1 eI r):=by
 refine FnM.of_wH ⟨Tryz.prog,36,[],[]⟩ rfl Tryz.func42 rfl rfl (lb_ rfl) (by kernel_rfl) ?_
 unfold gJ at hF
 refine af (aa (ae .nil wz rfl (aj (af (aa (ae (vI 0) wz rfl (aj (af (af (aa (ae (vL (eL eI) slices_1) wz rfl (bX un99 rfl wz (ae (vI 0) wz rfl (aj ?_))))))))))))))
 obtain ⟨o_10,hj_11,hF⟩:=bind_some hF
 obtain ⟨hn_6,hj_11⟩:=bn hj_11
 refine aG (β:=(Int)) (λ(s_7:Int)=>([(0,(vL (eL eI) slices_1)),(3,(vI s_7))]:SL_)) (λ(s_7:Int)=>([]:Hp)) (λp=>o_10 = .go p) ?_ ?_
 ·refine aD (aX (β:=Nat×(List (List Int))×(Int)) (λp=>(λ(k_2:Nat) (l_3:List (List Int)) (s_7:Int)=>([(0,(vL (eL eI) slices_1)),(3,(vI s_7)),(9,(vL (eL eI) slices_1)),(10,(vI (slices_1.length:Int))),(11,(vI (k_2:Int)))]:SL_)) p.1 p.2.1 p.2.2) (λp=>(λ(k_2:Nat) (l_3:List (List Int)) (s_7:Int)=>([]:Hp)) p.1 p.2.1 p.2.2) (λp=>dG (λk x s=>di k x s) p.2.1 p.1 p.2.2=some o_10/\(slices_1).drop p.1=p.2.1) (λp=>p.2.1.length) (0,slices_1,0) ⟨hj_11,rfl⟩ rfl (aK rfl) ?_)
  rintro ⟨k_2,l_3,s_7⟩ ⟨hL_9,hD_5⟩
  dsimp only at hL_9 hD_5
  cases l_3 with
  | nil =>
   obtain rfl:=ah hL_9
   refine af (aa (ae (vB (decide ((k_2:Int)<(slices_1.length:Int)))) wz rfl (aj ?_)))
   refine af (aA rfl (drop_nil hD_5) (aS ?_))
   exact aU (s_7) rfl rfl (aK rfl)
  | cons x_4 l_3 =>
   obtain ⟨c_,hc_8,hL_9⟩:=bind_some hL_9
   refine af (aa (ae (vB (decide ((k_2:Int)<(slices_1.length:Int)))) wz rfl (aj ?_)))
   refine af (aB rfl (bE hD_5) (ax ?_))
   unfold di at hc_8
   refine af (aD (af (aa (dL es99 rfl rfl (bL hD_5) rfl wz (bz qw sH rfl (vL eI x_4) rfl wz (ae (vL eI x_4) wz rfl (aj (af (aa (ae (vI s_7) wz rfl (ae (vL eI x_4) wz rfl (bX nL rfl wz (ae (vI (w64 (s_7+(x_4.length:Int)))) wz rfl (ae (vI (w64 (s_7+(x_4.length:Int)))) wz rfl (aj (af (aa (ae (vI (w64 (s_7+(x_4.length:Int)))) wz rfl (ae (vB (decide ((w64 (s_7+(x_4.length:Int)))<0))) wz rfl (aj ?_))))))))))))))))))))
   obtain ⟨v_12,h_13,hc_8⟩:=bind_some hc_8
   refine aG (β:=Unit) (λ_=>([(0,(vL (eL eI) slices_1)),(3,(vI (w64 (s_7+(x_4.length:Int))))),(9,(vL (eL eI) slices_1)),(10,(vI (slices_1.length:Int))),(11,(vI (k_2:Int)))]:SL_)) (λ_=>([]:Hp)) (λ_=>True) ?_ ?_
   ·rcases au h_13 with⟨hc_14,h_13⟩|⟨hc_14,h_13⟩
    ·refine aB rfl hc_14 (aa ?_)
     cases h_13
    ·refine aA rfl hc_14 (ax ?_)
     obtain rfl:=ah h_13
     exact cu
   ·rintro ⟨⟩ _ sl_ H_ hp_ hq_
    refine aN _ hp_ hq_ (aa (gm (bH hD_5 hn_6) wz rfl (ae (vI ((k_2+1:Nat):Int)) wz rfl (aj ?_))))
    obtain rfl:=ah hc_8
    exact aO (k_2+1,l_3,(w64 (s_7+(x_4.length:Int)))) ⟨hL_9,aP hD_5⟩ (ls_ _) rfl (aK rfl)
 ·rintro s_7 ho_ sl_ H_ hp_ hq_
  subst ho_
  refine aN _ hp_ hq_ (af (aa (ae (vI s_7) wz rfl ?_)))
  obtain ⟨b_15,hr_16,hF⟩:=bind_some hF
  refine h_callk (enc:=eI) (rW hr_16) rfl hb65 (by kernel_rfl) rfl (by kernel_rfl) wz (λn_17=>ae (kV b_15 n_17 1 ([]:List Int)) wz rfl (aj (af (af (aa (ae (vL (eL eI) slices_1) wz rfl (bX un99 rfl wz (ae (vI 0) wz rfl (aj ?_)))))))))
  obtain ⟨o_28,hj_29,hF⟩:=bind_some hF
  obtain ⟨hn_22,hj_29⟩:=bn hj_29
  refine aG (β:=((List Int))×Nm) (λp=>(λ(s_23:List Int) (n_25:Nm)=>([(6,(kV b_15 n_25 1 s_23))]:SL_)) p.1 p.2) (λp=>(λ(s_23:List Int) (n_25:Nm)=>([(n_25,kB b_15 1 eI s_23)]:Hp)) p.1 p.2) (λp=>o_28 = .go p.1) ?_ ?_
  ·refine aD (aX (β:=Nat×(List (List Int))×((List Int))×Nm) (λp=>(λ(k_18:Nat) (l_19:List (List Int)) (s_23:List Int) (n_25:Nm)=>([(6,(kV b_15 n_25 1 s_23)),(25,(vL (eL eI) slices_1)),(26,(vI (slices_1.length:Int))),(27,(vI (k_18:Int)))]:SL_)) p.1 p.2.1 p.2.2.1 p.2.2.2) (λp=>(λ(k_18:Nat) (l_19:List (List Int)) (s_23:List Int) (n_25:Nm)=>([(n_25,kB b_15 1 eI s_23)]:Hp)) p.1 p.2.1 p.2.2.1 p.2.2.2) (λp=>dG (λk x s=>dh k x s) p.2.1 p.1 p.2.2.1=some o_28/\(slices_1).drop p.1=p.2.1) (λp=>p.2.1.length) (0,slices_1,([]:List Int),n_17) ⟨hj_29,rfl⟩ rfl (aK rfl) ?_)
   rintro ⟨k_18,l_19,s_23,n_25⟩ ⟨hL_27,hD_21⟩
   dsimp only at hL_27 hD_21
   cases l_19 with
   | nil =>
    obtain rfl:=ah hL_27
    refine af (aa (ae (vB (decide ((k_18:Int)<(slices_1.length:Int)))) wz rfl (aj ?_)))
    refine af (aA rfl (drop_nil hD_21) (aS ?_))
    exact aU (s_23,n_25) rfl rfl (aK rfl)
   | cons x_20 l_19 =>
    obtain ⟨c_,hc_26,hL_27⟩:=bind_some hL_27
    refine af (aa (ae (vB (decide ((k_18:Int)<(slices_1.length:Int)))) wz rfl (aj ?_)))
    refine af (aB rfl (bE hD_21) (ax ?_))
    unfold dh at hc_26
    refine af (aD (af (aa (dL es99 rfl rfl (bL hD_21) rfl wz (bz qw sH rfl (vL eI x_20) rfl wz (ae (vL eI x_20) wz rfl (aj (aa (ae (kV b_15 n_25 1 s_23) wz rfl (ae (vL eI x_20) wz rfl ?_))))))))))
    obtain ⟨a_30,hz_31,hc_26⟩:=bind_some hc_26
    refine Jq 0 il ft (i:=0) wP wP sz3 z3 rfl (by decide) by3 (by decide) (λ_=>rfl) rfl rfl rfl hz_31 wz (λn_32=>ae (kV b_15 n_32 1 a_30) wz rfl (aj (aa (gm (bH hD_21 hn_22) wz rfl (ae (vI ((k_18+1:Nat):Int)) wz rfl (aj ?_))))))
    obtain rfl:=ah hc_26
    exact aO (k_18+1,l_19,a_30,n_32) ⟨hL_27,aP hD_21⟩ (ls_ _) rfl (aK rfl)
  ·rintro ⟨s_23,n_25⟩ ho_ sl_ H_ hp_ hq_
   subst ho_
   refine aN _ hp_ hq_ (af (aa (ae (kV b_15 n_25 1 s_23) wz rfl (ae (kV b_15 n_25 1 s_23) wz rfl (aj ?_)))))
   obtain ⟨_,hk_,hF⟩:=bind_some hF
   refine LH (v':=(gV n_25 1 s_23)) 2 rfl (kV_g hk_) (wH_reH (b':=gB 1 eI s_23) 0 rfl (kB_g hk_) ?_)
   obtain rfl:=ah hF
   exact aC (EL (outs:=([]:List Box)) (.inr rfl) 0 rfl rfl rfl (by kernel_rfl) (by kernel_rfl))
theorem Ff {a_1:Int} {b_2:Int} {r:Int} (hF:tH a_1 b_2=some r) :
  FnM Tryz.prog 118 [(vI a_1),(vI b_2)] [] (vI r) []:=by
 refine FnM.of_wH ⟨Tryz.prog,16,[],[]⟩ rfl Tryz.func118 rfl rfl (lb_ rfl) (by kernel_rfl) ?_
 unfold tH at hF
 refine af (aa (ae (vI 0) wz rfl (aj (af (af (aa (ae (vI a_1) wz rfl (ae (vI b_2) wz rfl ?_))))))))
 obtain ⟨q_3,hz_4,hF⟩:=bind_some hF
 refine Ga rfl rfl hz_4 wz (ae (vB (decide (q_3<0))) wz rfl (aj ?_))
 rcases au hF with⟨hc_5,hF⟩|⟨hc_5,hF⟩
 ·refine aB rfl hc_5 (af (aa (ae (vI a_1) wz rfl (ae (vI b_2) wz rfl ?_))))
  obtain ⟨q_6,hz_7,hF⟩:=bind_some hF
  refine MP rfl rfl hz_7 wz (ae (vI (w64 (q_6-1))) wz rfl (ae (vI (w64 (q_6-1))) wz rfl (aj ?_)))
  obtain rfl:=ah hF
  exact aC (bv (.inr rfl) [(vI (w64 (q_6-1)))] ⟨rfl,trivial⟩ rfl rfl rfl)
 ·refine aA rfl hc_5 (ax (af (aa (ae (vI a_1) wz rfl (ae (vI b_2) wz rfl ?_)))))
  obtain ⟨q_8,hz_9,hF⟩:=bind_some hF
  refine MP rfl rfl hz_9 wz (ae (vI q_8) wz rfl (aj ?_))
  obtain rfl:=ah hF
  exact aC (bv (.inr rfl) [(vI q_8)] ⟨rfl,trivial⟩ rfl rfl rfl)
theorem uH {e_1:Entry} {zone_2:Int} {atv_3:Int} {r:Int×Bool} (hF:oC e_1 zone_2 atv_3=some r) :
  FnM Tryz.prog 93 [(.d (.agg (Entry.enc e_1))),(vI zone_2),(vI atv_3)] [] (.tup [(vI r.1),(vB r.2)]) []:=by
 refine FnM.of_wH ⟨Tryz.prog,53,[],[]⟩ rfl Tryz.func93 rfl rfl (lb_ rfl) (by kernel_rfl) ?_
 unfold oC at hF
 refine af (aa (dZ 0 (.inl rfl) [(vS e_1.Key),(vS e_1.Item),(vI e_1.Version),(vI e_1.First),(vI e_1.Last),(vI e_1.Every),(vI e_1.Days),(vL eI e_1.Except),(vI e_1.From),(vI e_1.To),(vI e_1.Prio),(vL eS e_1.Tags),(vB e_1.Gone)] rfl rfl wz (λn_4=>ae (vI 0) wz rfl (ae (vB false) wz rfl (aj (af (aa (ae (vI atv_3) wz rfl (ae (vI zone_2) wz rfl (ae (vI (w64 (zone_2*60000))) wz rfl (ae (vI (w64 (atv_3+(w64 (zone_2*60000))))) wz rfl ?_)))))))))))
 obtain ⟨r_5,hr_6,hF⟩:=bind_some hF
 refine aF (Ff hr_6) rfl hb118 rfl rfl rfl rfl wz (ae (vI r_5) wz rfl (aj (af (af (aa (ae (vI r_5) wz rfl (ae (vI (w64 (r_5-1))) wz rfl (ae (vI r_5) wz rfl (dW (([(w64 (r_5-1)),r_5]:List Int).map eI) iE pW rfl rfl rfl rfl rfl wz (bX nL rfl wz (ae (vI 0) wz rfl (aj ?_))))))))))))
 obtain ⟨o_15,hj_16,hF⟩:=bind_some hF
 obtain ⟨hn_11,hj_16⟩:=bn hj_16
 refine aG (β:=(Unit)) (λ(s_12:Unit)=>([]:SL_)) (λ(s_12:Unit)=>([(n_4,some (.cells 13 [(vS e_1.Key),(vS e_1.Item),(vI e_1.Version),(vI e_1.First),(vI e_1.Last),(vI e_1.Every),(vI e_1.Days),(vL eI e_1.Except),(vI e_1.From),(vI e_1.To),(vI e_1.Prio),(vL eS e_1.Tags),(vB e_1.Gone)]))]:Hp)) (λp=>o_15 = .go p) ?_ ?_
 ·refine aD (aX (β:=Nat×(List Int)×(Unit)) (λp=>(λ(k_7:Nat) (l_8:List Int) (s_12:Unit)=>([(1,(vI zone_2)),(2,(vI atv_3)),(3,(.ref n_4 0 0)),(20,(vL eI ([(w64 (r_5-1)),r_5]:List Int))),(21,(vI (([(w64 (r_5-1)),r_5]:List Int).length:Int))),(22,(vI (k_7:Int)))]:SL_)) p.1 p.2.1 p.2.2) (λp=>(λ(k_7:Nat) (l_8:List Int) (s_12:Unit)=>([(n_4,some (.cells 13 [(vS e_1.Key),(vS e_1.Item),(vI e_1.Version),(vI e_1.First),(vI e_1.Last),(vI e_1.Every),(vI e_1.Days),(vL eI e_1.Except),(vI e_1.From),(vI e_1.To),(vI e_1.Prio),(vL eS e_1.Tags),(vB e_1.Gone)]))]:Hp)) p.1 p.2.1 p.2.2) (λp=>dG (λk x s=>ol e_1 zone_2 atv_3 k x s) p.2.1 p.1 p.2.2=some o_15/\(([(w64 (r_5-1)),r_5]:List Int)).drop p.1=p.2.1) (λp=>p.2.1.length) (0,([(w64 (r_5-1)),r_5]:List Int),()) ⟨hj_16,rfl⟩ rfl (aK rfl) ?_)
  rintro ⟨k_7,l_8,s_12⟩ ⟨hL_14,hD_10⟩
  dsimp only at hL_14 hD_10
  cases l_8 with
  | nil =>
   obtain rfl:=ah hL_14
   refine af (aa (ae (vB (decide ((k_7:Int)<(([(w64 (r_5-1)),r_5]:List Int).length:Int)))) wz rfl (aj ?_)))
   refine af (aA rfl (drop_nil hD_10) (aS ?_))
   exact aU (s_12) rfl rfl (aK rfl)
  | cons x_9 l_8 =>
   obtain ⟨c_,hc_13,hL_14⟩:=bind_some hL_14
   refine af (aa (ae (vB (decide ((k_7:Int)<(([(w64 (r_5-1)),r_5]:List Int).length:Int)))) wz rfl (aj ?_)))
   refine af (aB rfl (bE hD_10) (ax ?_))
   unfold ol at hc_13
   refine af (aD (af (aa (dL iE rfl rfl (bL hD_10) rfl wz (bz sz3 ag3 rfl (vI x_9) rfl wz (ae (vI x_9) wz rfl (aj (af (aa (ay 0 0 il ft gK jR rfl rfl (.d (.agg (Entry.enc e_1))) rfl wz (ae (vI zone_2) wz rfl (ae (vI x_9) wz rfl ?_))))))))))))
   obtain ⟨r_17,hr_18,hc_13⟩:=bind_some hc_13
   refine aF (xc hr_18) rfl hb69 rfl rfl rfl rfl wz (bR 0 (.inl rfl) z33 rfl wz (λn_19=>eu 0 il ft 1 eP rfl rfl [(vI r_17.From),(vI r_17.To)] rfl wz (aj (af ?_))))
   obtain ⟨v_20,h_21,hc_13⟩:=bind_some hc_13
   refine aG (β:=Unit) (λ_=>([(1,(vI zone_2)),(2,(vI atv_3)),(3,(.ref n_4 0 0)),(11,(.ref n_19 0 0)),(20,(vL eI ([(w64 (r_5-1)),r_5]:List Int))),(21,(vI (([(w64 (r_5-1)),r_5]:List Int).length:Int))),(22,(vI (k_7:Int))),(49,(vB v_20))]:SL_)) (λ_=>([(n_4,some (.cells 13 [(vS e_1.Key),(vS e_1.Item),(vI e_1.Version),(vI e_1.First),(vI e_1.Last),(vI e_1.Every),(vI e_1.Days),(vL eI e_1.Except),(vI e_1.From),(vI e_1.To),(vI e_1.Prio),(vL eS e_1.Tags),(vB e_1.Gone)])),(n_19,some (.cells 2 [(vI r_17.From),(vI r_17.To)]))]:Hp)) (λ_=>True) ?_ ?_
   ·refine aa (aJ Bh rfl 12 rfl wz (ay 0 0 il ft sz4 ag4 rfl rfl (vB e_1.Gone) rfl wz (ae (vB (!e_1.Gone)) wz rfl ?_)))
    rcases au h_21 with⟨hc_22,h_21⟩|⟨hc_22,h_21⟩
    ·refine aH rfl hc_22 wz (ay 0 0 il ft gK jR rfl rfl (.d (.agg (Entry.enc e_1))) rfl wa (ae (vI x_9) wa rfl ?_))
     obtain ⟨r_23,hr_24,h_21⟩:=bind_some h_21
     refine aF (yC hr_24) rfl hb70 rfl rfl rfl rfl wa (ae (vB r_23) wz rfl ?_)
     rcases au h_21 with⟨hc_25,h_21⟩|⟨hc_25,h_21⟩
     ·refine aH rfl hc_25 wz (aJ fw rfl 0 rfl wa (ay 0 1 il ft sz3 ag3 rfl rfl (vI r_17.From) rfl wa (ae (vI atv_3) wa rfl (ae (vB (decide (r_17.From<=atv_3))) wa rfl (ae (vB (decide (r_17.From<=atv_3))) wz rfl ?_)))))
      rcases au h_21 with⟨hc_26,h_21⟩|⟨hc_26,h_21⟩
      ·refine aH rfl hc_26 wz (ae (vI atv_3) wa rfl (aJ dX rfl 1 rfl wa (ay 0 1 il ft sz3 ag3 rfl rfl (vI r_17.To) rfl wa (ae (vB (decide (atv_3<r_17.To))) wa rfl (ae (vB (decide (atv_3<r_17.To))) wz rfl (aj ?_))))))
       obtain rfl:=ah h_21
       exact cu
      ·refine aH rfl hc_26 wz (ak wa (ak wa (ak wa (ak wa (ae (vB false) wz rfl (aj ?_))))))
       obtain rfl:=ah h_21
       exact cu
     ·refine aH rfl hc_25 wz (ak wa (ak wa (ak wa (ak wa (ae (vB false) wz rfl (ae (vB false) wz rfl (ak wa (ak wa (ak wa (ak wa (ae (vB false) wz rfl (aj ?_))))))))))))
      obtain rfl:=ah h_21
      exact cu
    ·refine aH rfl hc_22 wz (ak wa (ak wa (ak wa (ae (vB false) wz rfl (ae (vB false) wz rfl (ak wa (ak wa (ak wa (ak wa (ae (vB false) wz rfl (ae (vB false) wz rfl (ak wa (ak wa (ak wa (ak wa (ae (vB false) wz rfl (aj ?_)))))))))))))))))
     obtain rfl:=ah h_21
     exact cu
   ·rintro ⟨⟩ _ sl_ H_ hp_ hq_
    refine aN _ hp_ hq_ ?_
    rcases au hc_13 with⟨hc_27,hc_13⟩|⟨hc_27,hc_13⟩
    ·refine aB rfl hc_27 (af (aa (aJ fw rfl 0 rfl wz (ay 0 1 il ft sz3 ag3 rfl rfl (vI r_17.From) rfl wz (ae (vI r_17.From) wz rfl (ae (vB true) wz rfl (aj ?_)))))))
     obtain rfl:=ah hc_13
     obtain rfl:=ah hL_14
     obtain rfl:=ah hF
     exact aC (bv (.inr rfl) [(vI r_17.From),(vB true)] ⟨rfl,⟨rfl,trivial⟩⟩ rfl rfl rfl)
    ·refine aA rfl hc_27 (ax (aa (gm (bH hD_10 hn_11) wz rfl (ae (vI ((k_7+1:Nat):Int)) wz rfl (aj ?_)))))
     obtain rfl:=ah hc_13
     exact aO (k_7+1,l_8,()) ⟨hL_14,aP hD_10⟩ (ls_ _) rfl (aK rfl)
 ·rintro s_12 ho_ sl_ H_ hp_ hq_
  subst ho_
  refine aN _ hp_ hq_ (af (aa (ae (vI 0) wz rfl (ae (vB false) wz rfl (aj ?_)))))
  obtain rfl:=ah hF
  exact aC (bv (.inr rfl) [(vI 0),(vB false)] ⟨rfl,⟨rfl,trivial⟩⟩ rfl rfl rfl)
theorem o9 {s_1:(List ByteArray)} {v_2:ByteArray} {r:Int} (hF:gP s_1 v_2=some r) :
  FnM Tryz.prog 133 [(vL eS s_1),(vS v_2)] [] (vI r) []:=by
 refine FnM.of_wH ⟨Tryz.prog,19,[],[]⟩ rfl Tryz.func133 rfl rfl (lb_ rfl) (by kernel_rfl) ?_
 unfold gP at hF
 refine af (aa (ae (vI 0) wz rfl (aj (af (af (aa (ae (vL eS s_1) wz rfl (bX Br rfl wz (ae (vI 0) wz rfl (aj ?_))))))))))
 obtain ⟨o_11,hj_12,hF⟩:=bind_some hF
 obtain ⟨hn_7,hj_12⟩:=bn hj_12
 refine aG (β:=(Unit)) (λ(s_8:Unit)=>([]:SL_)) (λ(s_8:Unit)=>([]:Hp)) (λp=>o_11 = .go p) ?_ ?_
 ·refine aD (aX (β:=Nat×(List ByteArray)×(Unit)) (λp=>(λ(k_3:Nat) (l_4:List ByteArray) (s_8:Unit)=>([(0,(vL eS s_1)),(1,(vS v_2)),(7,(vI (s_1.length:Int))),(8,(vI (k_3:Int)))]:SL_)) p.1 p.2.1 p.2.2) (λp=>(λ(k_3:Nat) (l_4:List ByteArray) (s_8:Unit)=>([]:Hp)) p.1 p.2.1 p.2.2) (λp=>dG (λk x s=>dF v_2 k x s) p.2.1 p.1 p.2.2=some o_11/\(s_1).drop p.1=p.2.1) (λp=>p.2.1.length) (0,s_1,()) ⟨hj_12,rfl⟩ rfl (aK rfl) ?_)
  rintro ⟨k_3,l_4,s_8⟩ ⟨hL_10,hD_6⟩
  dsimp only at hL_10 hD_6
  cases l_4 with
  | nil =>
   obtain rfl:=ah hL_10
   refine af (aa (ae (vB (decide ((k_3:Int)<(s_1.length:Int)))) wz rfl (aj ?_)))
   refine af (aA rfl (drop_nil hD_6) (aS ?_))
   exact aU (s_8) rfl rfl (aK rfl)
  | cons x_5 l_4 =>
   obtain ⟨c_,hc_9,hL_10⟩:=bind_some hL_10
   refine af (aa (ae (vB (decide ((k_3:Int)<(s_1.length:Int)))) wz rfl (aj ?_)))
   refine af (aB rfl (bE hD_6) (ax ?_))
   unfold dF at hc_9
   refine af (aD (af (aa (ae (vI (k_3:Int)) wz rfl (ae (vI (k_3:Int)) wz rfl (aj (af (aa (ae (vS v_2) wz rfl (ae (vL eS s_1) wz rfl (ae (vI (k_3:Int)) wz rfl (dL nZ rfl rfl (bL hD_6) rfl wz (bz sz9 ag9 rfl (vS x_5) rfl wz (ae (vB (sEq v_2 x_5)) wz rfl (aj ?_)))))))))))))))
   rcases au hc_9 with⟨hc_13,hc_9⟩|⟨hc_13,hc_9⟩
   ·refine aB rfl hc_13 (af (aa (ae (vI (k_3:Int)) wz rfl (ae (vI (k_3:Int)) wz rfl (aj ?_)))))
    obtain rfl:=ah hc_9
    obtain rfl:=ah hL_10
    obtain rfl:=ah hF
    exact aC (bv (.inr rfl) [(vI (k_3:Int))] ⟨rfl,trivial⟩ rfl rfl rfl)
   ·refine aA rfl hc_13 (ax (aa (gm (bH hD_6 hn_7) wz rfl (ae (vI ((k_3+1:Nat):Int)) wz rfl (aj ?_)))))
    obtain rfl:=ah hc_9
    exact aO (k_3+1,l_4,()) ⟨hL_10,aP hD_6⟩ (ls_ _) rfl (aK rfl)
 ·rintro s_8 ho_ sl_ H_ hp_ hq_
  subst ho_
  refine aN _ hp_ hq_ (af (aa (ae (vI (-1)) wz rfl (aj ?_))))
  obtain rfl:=ah hF
  exact aC (bv (.inr rfl) [(vI (-1))] ⟨rfl,trivial⟩ rfl rfl rfl)
theorem nU {s_1:(List ByteArray)} {v_2:ByteArray} {r:Bool} (hF:eQ s_1 v_2=some r) :
  FnM Tryz.prog 121 [(vL eS s_1),(vS v_2)] [] (vB r) []:=by
 refine FnM.of_wH ⟨Tryz.prog,9,[],[]⟩ rfl Tryz.func121 rfl rfl (lb_ rfl) (by kernel_rfl) ?_
 unfold eQ at hF
 refine af (aa (ae (vB false) wz rfl (aj (af (aa (ae (vL eS s_1) wz rfl (ae (vS v_2) wz rfl ?_)))))))
 obtain ⟨r_3,hr_4,hF⟩:=bind_some hF
 refine aF (o9 hr_4) rfl hb133 rfl rfl rfl rfl wz (ae (vB (decide (r_3>=0))) wz rfl (ae (vB (decide (r_3>=0))) wz rfl (aj ?_)))
 obtain rfl:=ah hF
 exact aC (bv (.inr rfl) [(vB (decide (r_3>=0)))] ⟨rfl,trivial⟩ rfl rfl rfl)
theorem Bd {t_1:ByteArray} {p_2:Player} {r:Bool} (hF:oo t_1 p_2=some r) :
  FnM Tryz.prog 120 [(vS t_1),(.ref (av 0) 0 0)] [(.cells 4 [(vS p_2.Key),(vS p_2.Screen),(vI p_2.Zone),(vL eS p_2.Tags)])] (vB r) [some (.cells 4 [(vS p_2.Key),(vS p_2.Screen),(vI p_2.Zone),(vL eS p_2.Tags)])]:=by
 refine FnM.of_wH ⟨Tryz.prog,9,[],[]⟩ rfl Tryz.func120 rfl rfl (lb_ rfl) (by kernel_rfl) ?_
 unfold oo at hF
 refine af (aa (ae (vB false) wz rfl (aj (af (aa (aJ FY rfl 3 rfl wz (ay 0 0 il ft yT Bb rfl rfl (vL eS p_2.Tags) rfl wz (ae (vS t_1) wz rfl ?_))))))))
 obtain ⟨r_3,hr_4,hF⟩:=bind_some hF
 refine aF (nU hr_4) rfl hb121 rfl rfl rfl rfl wz (ae (vB (!r_3)) wz rfl (ae (vB (!r_3)) wz rfl (aj ?_)))
 obtain rfl:=ah hF
 exact aC (qK (.inr rfl) [(vB (!r_3))] _ [0] [av 0] ⟨rfl,trivial⟩ (.cons (iy rfl rfl) (.nil)) (by kernel_rfl) ⟨(by kernel_rfl),trivial⟩ (by decide) (by kernel_rfl))
theorem nG {s_1:(List ByteArray)} {f_2:ByteArray->Option Bool} {r:Int} {gid:FuncId} {caps:List V} {Sin:List Box} (hfn:∀x0 r,f_2 x0=some r->FnM Tryz.prog gid ([(vS x0)]++caps) Sin (vB r) (Sin.map some)) (hbF:aI Tryz.prog gid=true) (hcapF:caps.flatMap frz=[]/\caps.map co0=caps) (hokF:okL Sin.length caps=true) (hsF:∀b∈Sin,b.ok Sin.length=true) (hmF:∀b∈Sin,b.mut=true) (hF:fM s_1 f_2=some r) :
  FnM Tryz.prog 132 [(vL eS s_1),(.fn gid caps)] Sin (vI r) (Sin.map some):=by
 refine FnM.of_wH ⟨Tryz.prog,19,[],[]⟩ rfl Tryz.func132 rfl rfl (lb_ rfl) (by kernel_rfl) ?_
 unfold fM at hF
 refine af (aa (ae (vI 0) wz rfl (aj (af (af (aa (ae (vL eS s_1) wz rfl (bX Br rfl wz (ae (vI 0) wz rfl (aj ?_))))))))))
 obtain ⟨o_11,hj_12,hF⟩:=bind_some hF
 obtain ⟨hn_7,hj_12⟩:=bn hj_12
 refine aG (β:=(Unit)) (λ(s_8:Unit)=>([]:SL_)) (λ(s_8:Unit)=>(nA 0 Sin)) (λp=>o_11 = .go p) ?_ ?_
 ·refine aD (aX (β:=Nat×(List ByteArray)×(Unit)) (λp=>(λ(k_3:Nat) (l_4:List ByteArray) (s_8:Unit)=>([(0,(vL eS s_1)),(1,(.fn gid caps)),(7,(vI (s_1.length:Int))),(8,(vI (k_3:Int)))]:SL_)) p.1 p.2.1 p.2.2) (λp=>(λ(k_3:Nat) (l_4:List ByteArray) (s_8:Unit)=>(nA 0 Sin)) p.1 p.2.1 p.2.2) (λp=>dG (λk x s=>bS f_2 k x s) p.2.1 p.1 p.2.2=some o_11/\(s_1).drop p.1=p.2.1) (λp=>p.2.1.length) (0,s_1,()) ⟨hj_12,rfl⟩ rfl (sU _) ?_)
  rintro ⟨k_3,l_4,s_8⟩ ⟨hL_10,hD_6⟩
  dsimp only at hL_10 hD_6
  cases l_4 with
  | nil =>
   obtain rfl:=ah hL_10
   refine af (aa (ae (vB (decide ((k_3:Int)<(s_1.length:Int)))) wz rfl (aj ?_)))
   refine af (aA rfl (drop_nil hD_6) (aS ?_))
   exact aU (s_8) rfl rfl (sU _)
  | cons x_5 l_4 =>
   obtain ⟨c_,hc_9,hL_10⟩:=bind_some hL_10
   refine af (aa (ae (vB (decide ((k_3:Int)<(s_1.length:Int)))) wz rfl (aj ?_)))
   refine af (aB rfl (bE hD_6) (ax ?_))
   unfold bS at hc_9
   refine af (aD (af (aa (ae (vI (k_3:Int)) wz rfl (ae (vI (k_3:Int)) wz rfl (aj (af (aa (ae (.fn gid caps) wz rfl (ae (vL eS s_1) wz rfl (ae (vI (k_3:Int)) wz rfl (dL nZ rfl rfl (bL hD_6) rfl wz (bz sz9 ag9 rfl (vS x_5) rfl wz ?_)))))))))))))
   obtain ⟨r_13,hr_14,hc_9⟩:=bind_some hc_9
   refine FR (hfn _ _ hr_14) rfl hbF rfl rfl hcapF hokF hsF hmF rfl wz rfl (aj ?_)
   rcases au hc_9 with⟨hc_15,hc_9⟩|⟨hc_15,hc_9⟩
   ·refine aB rfl hc_15 (af (aa (ae (vI (k_3:Int)) wz rfl (ae (vI (k_3:Int)) wz rfl (aj ?_)))))
    obtain rfl:=ah hc_9
    obtain rfl:=ah hL_10
    obtain rfl:=ah hF
    exact aC (Mk hsF (.inr rfl) [(vI (k_3:Int))] ⟨rfl,trivial⟩ rfl rfl rfl)
   ·refine aA rfl hc_15 (ax (aa (gm (bH hD_6 hn_7) wz rfl (ae (vI ((k_3+1:Nat):Int)) wz rfl (aj ?_)))))
    obtain rfl:=ah hc_9
    exact aO (k_3+1,l_4,()) ⟨hL_10,aP hD_6⟩ (ls_ _) rfl (sU _)
 ·rintro s_8 ho_ sl_ H_ hp_ hq_
  subst ho_
  refine aN _ hp_ hq_ (af (aa (ae (vI (-1)) wz rfl (aj ?_))))
  obtain rfl:=ah hF
  exact aC (Mk hsF (.inr rfl) [(vI (-1))] ⟨rfl,trivial⟩ rfl rfl rfl)
theorem mg {s_1:(List ByteArray)} {f_2:ByteArray->Option Bool} {r:Bool} {gid:FuncId} {caps:List V} {Sin:List Box} (hfn:∀x0 r,f_2 x0=some r->FnM Tryz.prog gid ([(vS x0)]++caps) Sin (vB r) (Sin.map some)) (hbF:aI Tryz.prog gid=true) (hcapF:caps.flatMap frz=[]/\caps.map co0=caps) (hokF:okL Sin.length caps=true) (hsF:∀b∈Sin,b.ok Sin.length=true) (hmF:∀b∈Sin,b.mut=true) (hF:dJ s_1 f_2=some r) :
  FnM Tryz.prog 119 [(vL eS s_1),(.fn gid caps)] Sin (vB r) (Sin.map some):=by
 refine FnM.of_wH ⟨Tryz.prog,9,[],[]⟩ rfl Tryz.func119 rfl rfl (lb_ rfl) (by kernel_rfl) ?_
 unfold dJ at hF
 refine af (aa (ae (vB false) wz rfl (aj (af (aa (ae (vL eS s_1) wz rfl (ae (.fn gid caps) wz rfl ?_)))))))
 obtain ⟨r_3,hr_4,hF⟩:=bind_some hF
 refine FR (nG (gid:=gid) (caps:=caps) (Sin:=Sin) hfn hbF hcapF hokF hsF hmF hr_4) rfl hb132 rfl rfl ⟨rfl,rfl⟩ (by simp [okL,okV,hokF]) hsF hmF rfl wz rfl (ae (vB (decide (r_3>=0))) wz rfl (ae (vB (decide (r_3>=0))) wz rfl (aj ?_)))
 obtain rfl:=ah hF
 exact aC (Mk hsF (.inr rfl) [(vB (decide (r_3>=0)))] ⟨rfl,trivial⟩ rfl rfl rfl)
end Go.Proofs.YtnjnggakgeommaaGreat.Law

