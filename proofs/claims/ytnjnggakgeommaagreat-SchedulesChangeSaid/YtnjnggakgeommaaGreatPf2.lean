/-
 The machine computes these plain functions (written by a program of ours).
-/
import Derived.Test.YtnjnggakgeommaaGreatFacts
import Derived.Test.YtnjnggakgeommaaGreatDefs
import Derived.Test.YtnjnggakgeommaaGreatPf1
open Go Go.Eng Go.Proofs
namespace Go.Proofs.YtnjnggakgeommaaGreat.Law
set_option maxRecDepth 100000
set_option linter.unusedVariables false
set_option maxHeartbeats 1000000
theorem wT {s_1:Stream} {r:Player×Stream} (hF:j6 s_1=some r) :
  FnM Tryz.prog 5 [(.ref (av 0) 0 0)] [(.cells 2 [(vL eI s_1.L),(vI s_1.f_at)])] (.d (.agg (Player.enc r.1))) [some (.cells 2 [(vL eI r.2.L),(vI r.2.f_at)])]:=by
 refine FnM.of_wH ⟨Tryz.prog,25,[],[]⟩ rfl Tryz.func5 rfl rfl (lb_ rfl) (by kernel_rfl) ?_
 unfold j6 at hF
 refine af (aa (bR 0 (.inl rfl) z30 rfl wz (λn_2=>aj (af (aa (ae (.ref (av 0) 0 0) wz rfl ?_))))))
 obtain ⟨r_3,hr_4,hF⟩:=bind_some hF
 refine aW 0 [0] il ft (rQ hr_4) rfl hb26 rfl (by kernel_rfl) (by kernel_rfl) (by kernel_rfl) (by kernel_rfl) (by kernel_rfl) (by kernel_rfl) (by kernel_rfl) (by decide) (by kernel_rfl) wz (.d (.agg (Player.enc r_3.1))) (by kernel_rfl) ([((av 0),some (.cells 2 [(vL eI r_3.2.L),(vI r_3.2.f_at)])),(n_2,some (.cells 4 [(vS (⟨#[]⟩:ByteArray)),(vS (⟨#[]⟩:ByteArray)),(vI 0),.nil]))]:Hp) (by kernel_rfl) (bR 0 (.inl rfl) z30 rfl wz (λn_6=>eu 0 il ft 2 p8 rfl rfl [(vS r_3.1.Key),(vS r_3.1.Screen),(vI r_3.1.Zone),(vL eS r_3.1.Tags)] rfl wz (aj (af (af (aa (ae (.ref (av 0) 0 0) wz rfl ?_)))))))
 obtain ⟨r_7,hr_8,hF⟩:=bind_some hF
 refine aW 0 [0] il ft (eB hr_8) rfl hb7 rfl (by kernel_rfl) (by kernel_rfl) (by kernel_rfl) (by kernel_rfl) (by kernel_rfl) (by kernel_rfl) (by kernel_rfl) (by decide) (by kernel_rfl) wz (vB r_7.1) (by kernel_rfl) ([((av 0),some (.cells 2 [(vL eI r_7.2.L),(vI r_7.2.f_at)])),(n_2,some (.cells 4 [(vS (⟨#[]⟩:ByteArray)),(vS (⟨#[]⟩:ByteArray)),(vI 0),.nil])),(n_6,some (.cells 4 [(vS r_3.1.Key),(vS r_3.1.Screen),(vI r_3.1.Zone),(vL eS r_3.1.Tags)]))]:Hp) (by kernel_rfl) (aj ?_)
 obtain ⟨v_10,h_11,hF⟩:=bind_some hF
 refine aG (β:=Unit) (λ_=>([(2,(.ref n_2 0 0)),(3,(.ref n_6 0 0))]:SL_)) (λ_=>([((av 0),some (.cells 2 [(vL eI v_10.1),(vI v_10.2.1)])),(n_2,some (.cells 4 [(vS (⟨#[]⟩:ByteArray)),(vS (⟨#[]⟩:ByteArray)),(vI 0),.nil])),(n_6,some (.cells 4 [(vS v_10.2.2.1),(vS v_10.2.2.2.1),(vI v_10.2.2.2.2.1),(vL eS v_10.2.2.2.2.2)]))]:Hp)) (λ_=>True) ?_ ?_
 ·rcases au h_11 with⟨hc_12,h_11⟩|⟨hc_12,h_11⟩
  ·refine aB rfl hc_12 (aa (ae (.ref (av 0) 0 0) wz rfl (dW (([(⟨#[112]⟩:ByteArray),(⟨#[]⟩:ByteArray)]:List ByteArray).map eS) nZ wQ rfl rfl rfl rfl rfl wz ?_)))
   obtain ⟨r_13,hr_14,h_11⟩:=bind_some h_11
   refine aW 0 [0] il ft (jg hr_14) rfl KE rfl (by kernel_rfl) (by kernel_rfl) (by kernel_rfl) (by kernel_rfl) (by kernel_rfl) (by kernel_rfl) (by kernel_rfl) (by decide) (by kernel_rfl) wz (vS r_13.1) (by kernel_rfl) ([((av 0),some (.cells 2 [(vL eI r_13.2.L),(vI r_13.2.f_at)])),(n_2,some (.cells 4 [(vS (⟨#[]⟩:ByteArray)),(vS (⟨#[]⟩:ByteArray)),(vI 0),.nil])),(n_6,some (.cells 4 [(vS r_3.1.Key),(vS r_3.1.Screen),(vI r_3.1.Zone),(vL eS r_3.1.Tags)]))]:Hp) (by kernel_rfl) (ae (.ref (av 0) 0 0) wz rfl (dW (([(⟨#[115,97]⟩:ByteArray),(⟨#[65]⟩:ByteArray)]:List ByteArray).map eS) nZ wQ rfl rfl rfl rfl rfl wz ?_))
   obtain ⟨r_16,hr_17,h_11⟩:=bind_some h_11
   refine aW 0 [0] il ft (jg hr_17) rfl KE rfl (by kernel_rfl) (by kernel_rfl) (by kernel_rfl) (by kernel_rfl) (by kernel_rfl) (by kernel_rfl) (by kernel_rfl) (by decide) (by kernel_rfl) wz (vS r_16.1) (by kernel_rfl) ([((av 0),some (.cells 2 [(vL eI r_16.2.L),(vI r_16.2.f_at)])),(n_2,some (.cells 4 [(vS (⟨#[]⟩:ByteArray)),(vS (⟨#[]⟩:ByteArray)),(vI 0),.nil])),(n_6,some (.cells 4 [(vS r_3.1.Key),(vS r_3.1.Screen),(vI r_3.1.Zone),(vL eS r_3.1.Tags)]))]:Hp) (by kernel_rfl) (ae (.ref (av 0) 0 0) wz rfl ?_)
   obtain ⟨r_19,hr_20,h_11⟩:=bind_some h_11
   refine aW 0 [0] il ft (eY hr_20) rfl Du rfl (by kernel_rfl) (by kernel_rfl) (by kernel_rfl) (by kernel_rfl) (by kernel_rfl) (by kernel_rfl) (by kernel_rfl) (by decide) (by kernel_rfl) wz (vI r_19.1) (by kernel_rfl) ([((av 0),some (.cells 2 [(vL eI r_19.2.L),(vI r_19.2.f_at)])),(n_2,some (.cells 4 [(vS (⟨#[]⟩:ByteArray)),(vS (⟨#[]⟩:ByteArray)),(vI 0),.nil])),(n_6,some (.cells 4 [(vS r_3.1.Key),(vS r_3.1.Screen),(vI r_3.1.Zone),(vL eS r_3.1.Tags)]))]:Hp) (by kernel_rfl) (dW (([(⟨#[109,97,108,108]⟩:ByteArray),(⟨#[99,105,116,121]⟩:ByteArray)]:List ByteArray).map eS) nZ wQ rfl rfl rfl rfl rfl wz (dW (([(⟨#[]⟩:ByteArray)]:List ByteArray).map eS) nZ wQ rfl rfl rfl rfl rfl wz (dW (([([(⟨#[109,97,108,108]⟩:ByteArray),(⟨#[99,105,116,121]⟩:ByteArray)]:List ByteArray),([(⟨#[]⟩:ByteArray)]:List ByteArray),([]:List ByteArray)]:List (List ByteArray)).map (eL eS)) KI ez63 rfl rfl rfl rfl rfl wz (ae (.ref (av 0) 0 0) wz rfl ?_))))
   obtain ⟨r_22,hr_23,h_11⟩:=bind_some h_11
   refine aW 0 [0] il ft (dU hr_23) rfl C9 rfl (by kernel_rfl) (by kernel_rfl) (by kernel_rfl) (by kernel_rfl) (by kernel_rfl) (by kernel_rfl) (by kernel_rfl) (by decide) (by kernel_rfl) wz (vI r_22.1) (by kernel_rfl) ([((av 0),some (.cells 2 [(vL eI r_22.2.L),(vI r_22.2.f_at)])),(n_2,some (.cells 4 [(vS (⟨#[]⟩:ByteArray)),(vS (⟨#[]⟩:ByteArray)),(vI 0),.nil])),(n_6,some (.cells 4 [(vS r_3.1.Key),(vS r_3.1.Screen),(vI r_3.1.Zone),(vL eS r_3.1.Tags)]))]:Hp) (by kernel_rfl) ?_
   obtain ⟨y_25,hy_26,h_11⟩:=bind_some h_11
   refine dL KI rfl rfl hy_26 rfl wz (bz yT Bb rfl (vL eS y_25) rfl wz (ae (.d (.agg (Player.enc (⟨r_13.1,r_16.1,r_19.1,y_25⟩:Player)))) wz (by kernel_rfl) (eu 0 il ft 2 p8 rfl rfl [(vS r_13.1),(vS r_16.1),(vI r_19.1),(vL eS y_25)] rfl wz (aj ?_))))
   obtain rfl:=ah h_11
   exact cu
  ·refine aA rfl hc_12 (ax ?_)
   obtain rfl:=ah h_11
   exact cu
 ·rintro ⟨⟩ _ sl_ H_ hp_ hq_
  refine aN _ hp_ hq_ (af (aa (ay 0 2 il ft p8 uI rfl rfl (.d (.agg (Player.enc (⟨v_10.2.2.1,v_10.2.2.2.1,v_10.2.2.2.2.1,v_10.2.2.2.2.2⟩:Player)))) rfl wz (eu 0 il ft 1 p8 rfl rfl [(vS v_10.2.2.1),(vS v_10.2.2.2.1),(vI v_10.2.2.2.2.1),(vL eS v_10.2.2.2.2.2)] rfl wz (aj ?_)))))
  obtain rfl:=ah hF
  exact aC (qK (.inr rfl) [(.d (.agg (Player.enc (⟨v_10.2.2.1,v_10.2.2.2.1,v_10.2.2.2.2.1,v_10.2.2.2.2.2⟩:Player))))] _ [0] [av 0] ⟨⟨1,_,_,_,_,_,_,_,rfl,rfl,p8,uI,rfl⟩,trivial⟩ (.cons (iy rfl rfl) (.nil)) (by kernel_rfl) ⟨(by kernel_rfl),trivial⟩ (by decide) (by kernel_rfl))
theorem zf {s_1:Stream} {r:Window×Stream} (hF:lF s_1=some r) :
  FnM Tryz.prog 6 [(.ref (av 0) 0 0)] [(.cells 2 [(vL eI s_1.L),(vI s_1.f_at)])] (.d (.agg (Window.enc r.1))) [some (.cells 2 [(vL eI r.2.L),(vI r.2.f_at)])]:=by
 refine FnM.of_wH ⟨Tryz.prog,31,[],[]⟩ rfl Tryz.func6 rfl rfl (lb_ rfl) (by kernel_rfl) ?_
 unfold lF at hF
 refine af (aa (bR 0 (.inl rfl) z33 rfl wz (λn_2=>aj (af (aa (ae (.ref (av 0) 0 0) wz rfl (dW (([0,0,1,36000000,86400000]:List Int).map eI) iE pW rfl rfl rfl rfl rfl wz ?_)))))))
 obtain ⟨r_3,hr_4,hF⟩:=bind_some hF
 refine aW 0 [0] il ft (dz hr_4) rfl AU rfl (by kernel_rfl) (by kernel_rfl) (by kernel_rfl) (by kernel_rfl) (by kernel_rfl) (by kernel_rfl) (by kernel_rfl) (by decide) (by kernel_rfl) wz (vI r_3.1) (by kernel_rfl) ([((av 0),some (.cells 2 [(vL eI r_3.2.L),(vI r_3.2.f_at)])),(n_2,some (.cells 2 [(vI 0),(vI 0)]))]:Hp) (by kernel_rfl) (ae (.ref (av 0) 0 0) wz rfl (dW (([1,42000000,86400000,259200000,777600000]:List Int).map eI) iE pW rfl rfl rfl rfl rfl wz ?_))
 obtain ⟨r_6,hr_7,hF⟩:=bind_some hF
 refine aW 0 [0] il ft (dz hr_7) rfl AU rfl (by kernel_rfl) (by kernel_rfl) (by kernel_rfl) (by kernel_rfl) (by kernel_rfl) (by kernel_rfl) (by kernel_rfl) (by decide) (by kernel_rfl) wz (vI r_6.1) (by kernel_rfl) ([((av 0),some (.cells 2 [(vL eI r_6.2.L),(vI r_6.2.f_at)])),(n_2,some (.cells 2 [(vI 0),(vI 0)]))]:Hp) (by kernel_rfl) (ae (.d (.agg (Window.enc (⟨r_3.1,r_6.1⟩:Window)))) wz (by kernel_rfl) (bR 0 (.inl rfl) z33 rfl wz (λn_9=>eu 0 il ft 2 eP rfl rfl [(vI r_3.1),(vI r_6.1)] rfl wz (aj (af (af ?_))))))
 obtain ⟨v_10,h_11,hF⟩:=bind_some hF
 refine aG (β:=Unit) (λ_=>([(0,(.ref (av 0) 0 0)),(2,(.ref n_2 0 0)),(3,(.ref n_9 0 0)),(20,(vB v_10.1))]:SL_)) (λ_=>([((av 0),some (.cells 2 [(vL eI v_10.2.1),(vI v_10.2.2)])),(n_2,some (.cells 2 [(vI 0),(vI 0)])),(n_9,some (.cells 2 [(vI r_3.1),(vI r_6.1)]))]:Hp)) (λ_=>True) ?_ ?_
 ·refine aa (aJ fw rfl 0 rfl wz (ay 0 2 il ft sz3 ag3 rfl rfl (vI r_3.1) rfl wz (aJ dX rfl 1 rfl wz (ay 0 2 il ft sz3 ag3 rfl rfl (vI r_6.1) rfl wz (ae (vB (decide (r_3.1>r_6.1))) wz rfl ?_)))))
  rcases au h_11 with⟨hc_12,h_11⟩|⟨hc_12,h_11⟩
  ·refine aH rfl hc_12 wz (ae (.ref (av 0) 0 0) wa rfl ?_)
   obtain ⟨r_13,hr_14,h_11⟩:=bind_some h_11
   refine aW 0 [0] il ft (eB hr_14) rfl hb7 rfl (by kernel_rfl) (by kernel_rfl) (by kernel_rfl) (by kernel_rfl) (by kernel_rfl) (by kernel_rfl) (by kernel_rfl) (by decide) (by kernel_rfl) wa (vB r_13.1) (by kernel_rfl) ([((av 0),some (.cells 2 [(vL eI r_13.2.L),(vI r_13.2.f_at)])),(n_2,some (.cells 2 [(vI 0),(vI 0)])),(n_9,some (.cells 2 [(vI r_3.1),(vI r_6.1)]))]:Hp) (by kernel_rfl) (ae (vB (!r_13.1)) wa rfl (ae (vB (!r_13.1)) wz rfl (aj ?_)))
   obtain rfl:=ah h_11
   exact cu
  ·refine aH rfl hc_12 wz (ak wa (ak wa (ak wa (ae (vB false) wz rfl (aj ?_)))))
   obtain rfl:=ah h_11
   exact cu
 ·rintro ⟨⟩ _ sl_ H_ hp_ hq_
  refine aN _ hp_ hq_ ?_
  obtain ⟨v_16,h_17,hF⟩:=bind_some hF
  refine aG (β:=Unit) (λ_=>([(0,(.ref (av 0) 0 0)),(2,(.ref n_2 0 0)),(3,(.ref n_9 0 0))]:SL_)) (λ_=>([((av 0),some (.cells 2 [(vL eI v_10.2.1),(vI v_10.2.2)])),(n_2,some (.cells 2 [(vI 0),(vI 0)])),(n_9,some (.cells 2 [(vI v_16),(vI r_6.1)]))]:Hp)) (λ_=>True) ?_ ?_
  ·rcases au h_17 with⟨hc_18,h_17⟩|⟨hc_18,h_17⟩
   ·refine aB rfl hc_18 (aa (aJ fw rfl 0 rfl wz (eu 0 il ft 2 sz3 rfl rfl [(vI 0),(vI r_6.1)] rfl wz (aj ?_))))
    obtain rfl:=ah h_17
    exact cu
   ·refine aA rfl hc_18 (ax ?_)
    obtain rfl:=ah h_17
    exact cu
  ·rintro ⟨⟩ _ sl_ H_ hp_ hq_
   refine aN _ hp_ hq_ (af (af (aa (ae (.ref (av 0) 0 0) wz rfl ?_))))
   obtain ⟨r_19,hr_20,hF⟩:=bind_some hF
   refine aW 0 [0] il ft (eB hr_20) rfl hb7 rfl (by kernel_rfl) (by kernel_rfl) (by kernel_rfl) (by kernel_rfl) (by kernel_rfl) (by kernel_rfl) (by kernel_rfl) (by decide) (by kernel_rfl) wz (vB r_19.1) (by kernel_rfl) ([((av 0),some (.cells 2 [(vL eI r_19.2.L),(vI r_19.2.f_at)])),(n_2,some (.cells 2 [(vI 0),(vI 0)])),(n_9,some (.cells 2 [(vI v_16),(vI r_6.1)]))]:Hp) (by kernel_rfl) (aj ?_)
   obtain ⟨v_22,h_23,hF⟩:=bind_some hF
   refine aG (β:=Unit) (λ_=>([(2,(.ref n_2 0 0)),(3,(.ref n_9 0 0))]:SL_)) (λ_=>([((av 0),some (.cells 2 [(vL eI v_22.1),(vI v_22.2.1)])),(n_2,some (.cells 2 [(vI 0),(vI 0)])),(n_9,some (.cells 2 [(vI v_22.2.2.1),(vI v_22.2.2.2)]))]:Hp)) (λ_=>True) ?_ ?_
   ·rcases au h_23 with⟨hc_24,h_23⟩|⟨hc_24,h_23⟩
    ·refine aB rfl hc_24 (aa (ae (.ref (av 0) 0 0) wz rfl ?_))
     obtain ⟨r_25,hr_26,h_23⟩:=bind_some h_23
     refine aW 0 [0] il ft (eY hr_26) rfl Du rfl (by kernel_rfl) (by kernel_rfl) (by kernel_rfl) (by kernel_rfl) (by kernel_rfl) (by kernel_rfl) (by kernel_rfl) (by decide) (by kernel_rfl) wz (vI r_25.1) (by kernel_rfl) ([((av 0),some (.cells 2 [(vL eI r_25.2.L),(vI r_25.2.f_at)])),(n_2,some (.cells 2 [(vI 0),(vI 0)])),(n_9,some (.cells 2 [(vI v_16),(vI r_6.1)]))]:Hp) (by kernel_rfl) (ae (.ref (av 0) 0 0) wz rfl (dW (([345686400000,345686400001,34646400000,34560000000,(-1)]:List Int).map eI) iE pW rfl rfl rfl rfl rfl wz ?_))
     obtain ⟨r_28,hr_29,h_23⟩:=bind_some h_23
     refine aW 0 [0] il ft (dz hr_29) rfl AU rfl (by kernel_rfl) (by kernel_rfl) (by kernel_rfl) (by kernel_rfl) (by kernel_rfl) (by kernel_rfl) (by kernel_rfl) (by decide) (by kernel_rfl) wz (vI r_28.1) (by kernel_rfl) ([((av 0),some (.cells 2 [(vL eI r_28.2.L),(vI r_28.2.f_at)])),(n_2,some (.cells 2 [(vI 0),(vI 0)])),(n_9,some (.cells 2 [(vI v_16),(vI r_6.1)]))]:Hp) (by kernel_rfl) (ae (.d (.agg (Window.enc (⟨r_25.1,r_28.1⟩:Window)))) wz (by kernel_rfl) (eu 0 il ft 2 eP rfl rfl [(vI r_25.1),(vI r_28.1)] rfl wz (aj ?_)))
     obtain rfl:=ah h_23
     exact cu
    ·refine aA rfl hc_24 (ax ?_)
     obtain rfl:=ah h_23
     exact cu
   ·rintro ⟨⟩ _ sl_ H_ hp_ hq_
    refine aN _ hp_ hq_ (af (aa (ay 0 2 il ft eP iO rfl rfl (.d (.agg (Window.enc (⟨v_22.2.2.1,v_22.2.2.2⟩:Window)))) rfl wz (eu 0 il ft 1 eP rfl rfl [(vI v_22.2.2.1),(vI v_22.2.2.2)] rfl wz (aj ?_)))))
    obtain rfl:=ah hF
    exact aC (qK (.inr rfl) [(.d (.agg (Window.enc (⟨v_22.2.2.1,v_22.2.2.2⟩:Window))))] _ [0] [av 0] ⟨⟨1,_,_,_,_,_,_,_,rfl,rfl,eP,iO,rfl⟩,trivial⟩ (.cons (iy rfl rfl) (.nil)) (by kernel_rfl) ⟨(by kernel_rfl),trivial⟩ (by decide) (by kernel_rfl))
theorem mf {s_1:(List Entry)} {r:(List Entry)} (hF:bZ s_1=some r) :
  FnM Tryz.prog 8 [(vL Entry.enc s_1)] [] (gV (av 0) 13 r) (([]:List Box).map some++gO 13 Entry.enc r):=by
 refine FnM.of_wH ⟨Tryz.prog,8,[],[]⟩ rfl Tryz.func8 rfl rfl (lb_ rfl) (by kernel_rfl) ?_
 unfold bZ at hF
 refine af (aa (ae .nil wz rfl (aj (af (af (aa (ae (vL Entry.enc s_1) wz rfl (JI qb rfl wz (λb_2 hb_3=>aj ?_)))))))))
 cases b_2 with
 | true =>
  refine aB rfl rfl ?_
  obtain rfl:=hb_3 rfl
  replace hF:=Em hF
  refine af (aa (ae .nil wz rfl (aj (lq (λn_4 => ?_)))))
  obtain rfl:=ah hF
  exact aC (EL (outs:=([]:List Box)) (.inr rfl) 0 rfl rfl rfl (by kernel_rfl) (by kernel_rfl))
 | false =>
  refine aA rfl rfl (ax (af (aa (Li mE ez26 rfl wz (ae (vL Entry.enc s_1) wz rfl ?_)))))
  obtain ⟨a_5,hz_6,hF⟩:=bind_some hF
  refine MO 0 (.inl rfl) KZ KZ gK z38 rfl (by decide) by38 (by decide) (λ_=>rfl) rfl rfl hz_6 wz (λn_7=>ae (gV n_7 13 a_5) wz rfl (aj ?_))
  obtain rfl:=ah hF
  exact aC (EL (outs:=([]:List Box)) (.inr rfl) 0 rfl rfl rfl (by kernel_rfl) (by kernel_rfl))
theorem nX {s_1:ByteArray} {r:Bool} (hF:lW s_1=some r) :
  FnM Tryz.prog 71 [(vS s_1)] [] (vB r) []:=by
 refine FnM.of_wH ⟨Tryz.prog,48,[],[]⟩ rfl Tryz.func71 rfl rfl (lb_ rfl) (by kernel_rfl) ?_
 unfold lW at hF
 refine af (aa (ae (vB false) wz rfl (aj (af (af (aa (ae (vI 0) wz rfl (aj ?_))))))))
 obtain ⟨o_10,hj_11,hF⟩:=bind_some hF
 obtain ⟨nq_33,hj_11⟩:=ek hj_11
 refine aG (β:=(Int)) (λ(s_7:Int)=>([(0,(vS s_1))]:SL_)) (λ(s_7:Int)=>([]:Hp)) (λp=>o_10 = .go p) ?_ ?_
 ·refine aD (aX (β:=Nat×(Int)) (λp=>(λ(k_2:Nat) (s_7:Int)=>([(0,(vS s_1)),(3,(vI s_7))]:SL_)) p.1 p.2) (λp=>(λ(k_2:Nat) (s_7:Int)=>([]:Hp)) p.1 p.2) (λp=>cO (λs=>kP s_1 s) p.1 p.2=some o_10) (λp=>p.1) (nq_33,0) hj_11 rfl (aK rfl) ?_)
  rintro ⟨k_2,s_7⟩ hL_9
  dsimp only at hL_9
  cases k_2 with
  | zero=>cases hL_9
  | succ k_2 =>
   obtain ⟨c_,hc_8,hL_9⟩:=bind_some hL_9
   unfold kP at hc_8
   refine af (af (aa (ae (vI s_7) wz rfl (ae (vS s_1) wz rfl (FU un9 rfl wz (ae (vB (decide (s_7<(s_1.size:Int)))) wz rfl (aj ?_)))))))
   rcases au hc_8 with⟨hc_12,hc_8⟩|⟨hc_12,hc_8⟩
   ·refine aB rfl hc_12 (ax (af (aD (af (aa (ae (vS s_1) wz rfl (ae (vI s_7) wz rfl ?_)))))))
    obtain ⟨b_13,hy_14,hc_8⟩:=bind_some hc_8
    refine I5 un9 rfl rfl hy_14 wz (ae (.d (.int .u8 (b_13.toNat:Int))) wz rfl (aj (af ?_)))
    obtain ⟨v_15,h_16,hc_8⟩:=bind_some hc_8
    refine aG (β:=Unit) (λ_=>([(0,(vS s_1)),(3,(vI s_7)),(40,(vB v_15))]:SL_)) (λ_=>([]:Hp)) (λ_=>True) ?_ ?_
    ·refine aa (ae (.d (.int .u8 (b_13.toNat:Int))) wz rfl (ae (vB (decide ((b_13.toNat:Int)>=97))) wz rfl ?_))
     rcases au h_16 with⟨hc_17,h_16⟩|⟨hc_17,h_16⟩
     ·refine aH rfl hc_17 wz (ae (.d (.int .u8 (b_13.toNat:Int))) wa rfl (ae (vB (decide ((b_13.toNat:Int)<=122))) wa rfl (ae (vB (decide ((b_13.toNat:Int)<=122))) wz rfl ?_)))
      rcases au h_16 with⟨hc_18,h_16⟩|⟨hc_18,h_16⟩
      ·refine aH rfl hc_18 wz (ak wa (ak wa (ak wa (ak (wn rfl rfl) (ak (wn rfl rfl) (ak (wn rfl rfl) (ak (wn rfl rfl) (ak (wn rfl rfl) (ak (wn rfl rfl) (ak (wn rfl rfl) (ak (wn rfl rfl) (ak (wn rfl rfl) (ak (wn rfl rfl) (ak (wn rfl rfl) (ak (wn rfl rfl) (ak (wn rfl rfl) (ak (wn rfl rfl) (ak wa (ae (vB true) wz rfl (ae (vB false) wz rfl (aj ?_)))))))))))))))))))))
       obtain rfl:=ah h_16
       exact cu
      ·refine aH rfl hc_18 wz (ae (vI s_7) wa rfl (ae (vB (decide (s_7>0))) wa rfl ?_))
       rcases au h_16 with⟨hc_19,h_16⟩|⟨hc_19,h_16⟩
       ·refine aH rfl hc_19 wa (ae (.d (.int .u8 (b_13.toNat:Int))) wa rfl (ae (vB (decide ((b_13.toNat:Int)>=48))) wa rfl ?_))
        rcases au h_16 with⟨hc_20,h_16⟩|⟨hc_20,h_16⟩
        ·refine aH rfl hc_20 wa (ae (.d (.int .u8 (b_13.toNat:Int))) wa rfl (ae (vB (decide ((b_13.toNat:Int)<=57))) wa rfl (ae (vB (decide ((b_13.toNat:Int)<=57))) wa rfl ?_)))
         rcases au h_16 with⟨hc_21,h_16⟩|⟨hc_21,h_16⟩
         ·refine aH rfl hc_21 wa (ak wa (ak wa (ae (vB true) wa rfl (ae (vB true) wa rfl (ak wa (ak wa (ae (vB true) wa rfl (ae (vB true) wa rfl (ae (vB true) wz rfl (ae (vB false) wz rfl (aj ?_)))))))))))
          obtain rfl:=ah h_16
          exact cu
         ·refine aH rfl hc_21 wa (ae (.d (.int .u8 (b_13.toNat:Int))) wa rfl (ae (vB ((b_13.toNat:Int)==45)) wa rfl (ae (vB ((b_13.toNat:Int)==45)) wa rfl ?_)))
          rcases au h_16 with⟨hc_22,h_16⟩|⟨hc_22,h_16⟩
          ·refine aH rfl hc_22 wa (ak wa (ak wa (ae (vB true) wa rfl (ae (vB true) wa rfl (ae (vB true) wz rfl (ae (vB false) wz rfl (aj ?_)))))))
           obtain rfl:=ah h_16
           exact cu
          ·refine aH rfl hc_22 wa (ae (.d (.int .u8 (b_13.toNat:Int))) wa rfl (ae (vB ((b_13.toNat:Int)==95)) wa rfl (ae (vB ((b_13.toNat:Int)==95)) wa rfl (ae (vB ((b_13.toNat:Int)==95)) wa rfl (ae (vB ((b_13.toNat:Int)==95)) wz rfl (ae (vB (!((b_13.toNat:Int)==95))) wz rfl (aj ?_)))))))
           obtain rfl:=ah h_16
           exact cu
        ·refine aH rfl hc_20 wa (ak wa (ak wa (ae (vB false) wa rfl (ae (vB false) wa rfl (ae (.d (.int .u8 (b_13.toNat:Int))) wa rfl (ae (vB ((b_13.toNat:Int)==45)) wa rfl (ae (vB ((b_13.toNat:Int)==45)) wa rfl ?_)))))))
         rcases au h_16 with⟨hc_23,h_16⟩|⟨hc_23,h_16⟩
         ·refine aH rfl hc_23 wa (ak wa (ak wa (ae (vB true) wa rfl (ae (vB true) wa rfl (ae (vB true) wz rfl (ae (vB false) wz rfl (aj ?_)))))))
          obtain rfl:=ah h_16
          exact cu
         ·refine aH rfl hc_23 wa (ae (.d (.int .u8 (b_13.toNat:Int))) wa rfl (ae (vB ((b_13.toNat:Int)==95)) wa rfl (ae (vB ((b_13.toNat:Int)==95)) wa rfl (ae (vB ((b_13.toNat:Int)==95)) wa rfl (ae (vB ((b_13.toNat:Int)==95)) wz rfl (ae (vB (!((b_13.toNat:Int)==95))) wz rfl (aj ?_)))))))
          obtain rfl:=ah h_16
          exact cu
       ·refine aH rfl hc_19 wa (ak wa (ak wa (ak wa (ak (wn rfl rfl) (ak (wn rfl rfl) (ak wa (ak wa (ak (wn rfl rfl) (ak (wn rfl rfl) (ak wa (ak wa (ak (wn rfl rfl) (ak (wn rfl rfl) (ak wa (ae (vB false) wa rfl (ae (vB false) wz rfl (ae (vB true) wz rfl (aj ?_))))))))))))))))))
        obtain rfl:=ah h_16
        exact cu
     ·refine aH rfl hc_17 wz (ak wa (ak wa (ae (vB false) wz rfl (ae (vB false) wz rfl (ae (vI s_7) wa rfl (ae (vB (decide (s_7>0))) wa rfl ?_))))))
      rcases au h_16 with⟨hc_24,h_16⟩|⟨hc_24,h_16⟩
      ·refine aH rfl hc_24 wa (ae (.d (.int .u8 (b_13.toNat:Int))) wa rfl (ae (vB (decide ((b_13.toNat:Int)>=48))) wa rfl ?_))
       rcases au h_16 with⟨hc_25,h_16⟩|⟨hc_25,h_16⟩
       ·refine aH rfl hc_25 wa (ae (.d (.int .u8 (b_13.toNat:Int))) wa rfl (ae (vB (decide ((b_13.toNat:Int)<=57))) wa rfl (ae (vB (decide ((b_13.toNat:Int)<=57))) wa rfl ?_)))
        rcases au h_16 with⟨hc_26,h_16⟩|⟨hc_26,h_16⟩
        ·refine aH rfl hc_26 wa (ak wa (ak wa (ae (vB true) wa rfl (ae (vB true) wa rfl (ak wa (ak wa (ae (vB true) wa rfl (ae (vB true) wa rfl (ae (vB true) wz rfl (ae (vB false) wz rfl (aj ?_)))))))))))
         obtain rfl:=ah h_16
         exact cu
        ·refine aH rfl hc_26 wa (ae (.d (.int .u8 (b_13.toNat:Int))) wa rfl (ae (vB ((b_13.toNat:Int)==45)) wa rfl (ae (vB ((b_13.toNat:Int)==45)) wa rfl ?_)))
         rcases au h_16 with⟨hc_27,h_16⟩|⟨hc_27,h_16⟩
         ·refine aH rfl hc_27 wa (ak wa (ak wa (ae (vB true) wa rfl (ae (vB true) wa rfl (ae (vB true) wz rfl (ae (vB false) wz rfl (aj ?_)))))))
          obtain rfl:=ah h_16
          exact cu
         ·refine aH rfl hc_27 wa (ae (.d (.int .u8 (b_13.toNat:Int))) wa rfl (ae (vB ((b_13.toNat:Int)==95)) wa rfl (ae (vB ((b_13.toNat:Int)==95)) wa rfl (ae (vB ((b_13.toNat:Int)==95)) wa rfl (ae (vB ((b_13.toNat:Int)==95)) wz rfl (ae (vB (!((b_13.toNat:Int)==95))) wz rfl (aj ?_)))))))
          obtain rfl:=ah h_16
          exact cu
       ·refine aH rfl hc_25 wa (ak wa (ak wa (ae (vB false) wa rfl (ae (vB false) wa rfl (ae (.d (.int .u8 (b_13.toNat:Int))) wa rfl (ae (vB ((b_13.toNat:Int)==45)) wa rfl (ae (vB ((b_13.toNat:Int)==45)) wa rfl ?_)))))))
        rcases au h_16 with⟨hc_28,h_16⟩|⟨hc_28,h_16⟩
        ·refine aH rfl hc_28 wa (ak wa (ak wa (ae (vB true) wa rfl (ae (vB true) wa rfl (ae (vB true) wz rfl (ae (vB false) wz rfl (aj ?_)))))))
         obtain rfl:=ah h_16
         exact cu
        ·refine aH rfl hc_28 wa (ae (.d (.int .u8 (b_13.toNat:Int))) wa rfl (ae (vB ((b_13.toNat:Int)==95)) wa rfl (ae (vB ((b_13.toNat:Int)==95)) wa rfl (ae (vB ((b_13.toNat:Int)==95)) wa rfl (ae (vB ((b_13.toNat:Int)==95)) wz rfl (ae (vB (!((b_13.toNat:Int)==95))) wz rfl (aj ?_)))))))
         obtain rfl:=ah h_16
         exact cu
      ·refine aH rfl hc_24 wa (ak wa (ak wa (ak wa (ak (wn rfl rfl) (ak (wn rfl rfl) (ak wa (ak wa (ak (wn rfl rfl) (ak (wn rfl rfl) (ak wa (ak wa (ak (wn rfl rfl) (ak (wn rfl rfl) (ak wa (ae (vB false) wa rfl (ae (vB false) wz rfl (ae (vB true) wz rfl (aj ?_))))))))))))))))))
       obtain rfl:=ah h_16
       exact cu
    ·rintro ⟨⟩ _ sl_ H_ hp_ hq_
     refine aN _ hp_ hq_ ?_
     rcases au hc_8 with⟨hc_29,hc_8⟩|⟨hc_29,hc_8⟩
     ·refine aB rfl hc_29 (af (aa (ae (vB false) wz rfl (aj ?_))))
      obtain rfl:=ah hc_8
      obtain rfl:=ah hL_9
      obtain rfl:=ah hF
      exact aC (bv (.inr rfl) [(vB false)] ⟨rfl,trivial⟩ rfl rfl rfl)
     ·refine aA rfl hc_29 (ax (aa (ae (vI s_7) wz rfl (ae (vI (w64 (s_7+1))) wz rfl (ae (vI (w64 (s_7+1))) wz rfl (aj ?_))))))
      obtain rfl:=ah hc_8
      exact aO (k_2,(w64 (s_7+1))) hL_9 (ls_ _) rfl (aK rfl)
   ·refine aA rfl hc_12 (aS ?_)
    obtain rfl:=ah hc_8
    obtain rfl:=ah hL_9
    exact aU (s_7) rfl rfl (aK rfl)
 ·rintro s_7 ho_ sl_ H_ hp_ hq_
  subst ho_
  refine aN _ hp_ hq_ (af ?_)
  obtain ⟨v_30,h_31,hF⟩:=bind_some hF
  refine aG (β:=Unit) (λ_=>([(2,(vB v_30))]:SL_)) (λ_=>([]:Hp)) (λ_=>True) ?_ ?_
  ·refine aa (ae (vS s_1) wz rfl (ae (vB (sNe s_1 (⟨#[]⟩:ByteArray))) wz rfl ?_))
   rcases au h_31 with⟨hc_32,h_31⟩|⟨hc_32,h_31⟩
   ·refine aH rfl hc_32 wz (ae (vS s_1) wa rfl (FU un9 rfl wa (ae (vB (decide ((s_1.size:Int)<=40))) wa rfl (ae (vB (decide ((s_1.size:Int)<=40))) wz rfl (ae (vB (decide ((s_1.size:Int)<=40))) wz rfl (aj ?_))))))
    obtain rfl:=ah h_31
    exact cu
   ·refine aH rfl hc_32 wz (ak wa (ak wa (ak wa (ae (vB false) wz rfl (ae (vB false) wz rfl (aj ?_))))))
    obtain rfl:=ah h_31
    exact cu
  ·rintro ⟨⟩ _ sl_ H_ hp_ hq_
   refine aN _ hp_ hq_ ?_
   obtain rfl:=ah hF
   exact aC (bv (.inr rfl) [(vB v_30)] ⟨rfl,trivial⟩ rfl rfl rfl)
theorem fI {n_1:Int} {low_2:Int} {high_3:Int} {r:Bool} (hF:fJ n_1 low_2 high_3=some r) :
  FnM Tryz.prog 60 [(vI n_1),(vI low_2),(vI high_3)] [] (vB r) []:=by
 refine FnM.of_wH ⟨Tryz.prog,15,[],[]⟩ rfl Tryz.func60 rfl rfl (lb_ rfl) (by kernel_rfl) ?_
 unfold fJ at hF
 refine af (aa (ae (vB false) wz rfl (aj (af ?_))))
 obtain ⟨v_4,h_5,hF⟩:=bind_some hF
 refine aG (β:=Unit) (λ_=>([(6,(vB v_4))]:SL_)) (λ_=>([]:Hp)) (λ_=>True) ?_ ?_
 ·refine aa (ae (vI n_1) wz rfl (ae (vI low_2) wz rfl (ae (vB (decide (n_1<low_2))) wz rfl ?_)))
  rcases au h_5 with⟨hc_6,h_5⟩|⟨hc_6,h_5⟩
  ·refine aH rfl hc_6 wz (ak wa (ak wa (ak wa (ae (vB true) wz rfl (ae (vB true) wz rfl (aj ?_))))))
   obtain rfl:=ah h_5
   exact cu
  ·refine aH rfl hc_6 wz (ae (vI n_1) wa rfl (ae (vI high_3) wa rfl (ae (vB (decide (n_1>high_3))) wa rfl (ae (vB (decide (n_1>high_3))) wz rfl (ae (vB (decide (n_1>high_3))) wz rfl (aj ?_))))))
   obtain rfl:=ah h_5
   exact cu
 ·rintro ⟨⟩ _ sl_ H_ hp_ hq_
  refine aN _ hp_ hq_ ?_
  obtain rfl:=ah hF
  exact aC (bv (.inr rfl) [(vB v_4)] ⟨rfl,trivial⟩ rfl rfl rfl)
theorem FZ {n_1:Int} {r:Bool} (hF:sG n_1=some r) :
  FnM Tryz.prog 99 [(vI n_1)] [] (vB r) []:=by
 refine FnM.of_wH ⟨Tryz.prog,9,[],[]⟩ rfl Tryz.func99 rfl rfl (lb_ rfl) (by kernel_rfl) ?_
 unfold sG at hF
 refine af (aa (ae (vB false) wz rfl (aj (af ?_))))
 obtain ⟨v_2,h_3,hF⟩:=bind_some hF
 refine aG (β:=Unit) (λ_=>([(2,(vB v_2))]:SL_)) (λ_=>([]:Hp)) (λ_=>True) ?_ ?_
 ·refine aa (ae (vI n_1) wz rfl (ae (vB (decide (n_1>=0))) wz rfl ?_))
  rcases au h_3 with⟨hc_4,h_3⟩|⟨hc_4,h_3⟩
  ·refine aH rfl hc_4 wz (ae (vI n_1) wa rfl (ae (vB (decide (n_1<=4000))) wa rfl (ae (vB (decide (n_1<=4000))) wz rfl (ae (vB (decide (n_1<=4000))) wz rfl (aj ?_)))))
   obtain rfl:=ah h_3
   exact cu
  ·refine aH rfl hc_4 wz (ak wa (ak wa (ae (vB false) wz rfl (ae (vB false) wz rfl (aj ?_)))))
   obtain rfl:=ah h_3
   exact cu
 ·rintro ⟨⟩ _ sl_ H_ hp_ hq_
  refine aN _ hp_ hq_ ?_
  obtain rfl:=ah hF
  exact aC (bv (.inr rfl) [(vB v_2)] ⟨rfl,trivial⟩ rfl rfl rfl)
theorem sV {l_1:(List Int)} {r:Int} (hF:iT l_1=some r) :
  FnM Tryz.prog 72 [(vL eI l_1)] [] (vI r) []:=by
 refine FnM.of_wH ⟨Tryz.prog,30,[],[]⟩ rfl Tryz.func72 rfl rfl (lb_ rfl) (by kernel_rfl) ?_
 unfold iT at hF
 refine af (aa (ae (vI 0) wz rfl (aj (af (af (aa (ae (vL eI l_1) wz rfl (bX nL rfl wz (ae (vB (decide ((l_1.length:Int)>100))) wz rfl (aj ?_))))))))))
 rcases au hF with⟨hc_2,hF⟩|⟨hc_2,hF⟩
 ·refine aB rfl hc_2 (af (aa (ae (vI 2) wz rfl (aj ?_))))
  obtain rfl:=ah hF
  exact aC (bv (.inr rfl) [(vI 2)] ⟨rfl,trivial⟩ rfl rfl rfl)
 ·refine aA rfl hc_2 (ax (af (af (aa (ae (vL eI l_1) wz rfl (bX nL rfl wz (ae (vI 0) wz rfl (aj ?_))))))))
  obtain ⟨o_11,hj_12,hF⟩:=bind_some hF
  obtain ⟨hn_7,hj_12⟩:=bn hj_12
  refine aG (β:=(Unit)) (λ(s_8:Unit)=>([]:SL_)) (λ(s_8:Unit)=>([]:Hp)) (λp=>o_11 = .go p) ?_ ?_
  ·refine aD (aX (β:=Nat×(List Int)×(Unit)) (λp=>(λ(k_3:Nat) (l_4:List Int) (s_8:Unit)=>([(0,(vL eI l_1)),(8,(vL eI l_1)),(9,(vI (l_1.length:Int))),(10,(vI (k_3:Int)))]:SL_)) p.1 p.2.1 p.2.2) (λp=>(λ(k_3:Nat) (l_4:List Int) (s_8:Unit)=>([]:Hp)) p.1 p.2.1 p.2.2) (λp=>dG (λk x s=>ja l_1 k x s) p.2.1 p.1 p.2.2=some o_11/\(l_1).drop p.1=p.2.1) (λp=>p.2.1.length) (0,l_1,()) ⟨hj_12,rfl⟩ rfl (aK rfl) ?_)
   rintro ⟨k_3,l_4,s_8⟩ ⟨hL_10,hD_6⟩
   dsimp only at hL_10 hD_6
   cases l_4 with
   | nil =>
    obtain rfl:=ah hL_10
    refine af (aa (ae (vB (decide ((k_3:Int)<(l_1.length:Int)))) wz rfl (aj ?_)))
    refine af (aA rfl (drop_nil hD_6) (aS ?_))
    exact aU (s_8) rfl rfl (aK rfl)
   | cons x_5 l_4 =>
    obtain ⟨c_,hc_9,hL_10⟩:=bind_some hL_10
    refine af (aa (ae (vB (decide ((k_3:Int)<(l_1.length:Int)))) wz rfl (aj ?_)))
    refine af (aB rfl (bE hD_6) (ax ?_))
    unfold ja at hc_9
    refine af (aD (af (aa (ae (vI (k_3:Int)) wz rfl (dL iE rfl rfl (bL hD_6) rfl wz (bz sz3 ag3 rfl (vI x_5) rfl wz (ae (vI (k_3:Int)) wz rfl (ae (vI x_5) wz rfl (aj (af (af (aa (ae (vI x_5) wz rfl ?_)))))))))))))
    obtain ⟨r_13,hr_14,hc_9⟩:=bind_some hc_9
    refine aF (FZ hr_14) rfl hb99 rfl rfl rfl rfl wz (ae (vB (!r_13)) wz rfl (aj ?_))
    rcases au hc_9 with⟨hc_15,hc_9⟩|⟨hc_15,hc_9⟩
    ·refine aB rfl hc_15 (af (aa (ae (vI 1) wz rfl (aj ?_))))
     obtain rfl:=ah hc_9
     obtain rfl:=ah hL_10
     obtain rfl:=ah hF
     exact aC (bv (.inr rfl) [(vI 1)] ⟨rfl,trivial⟩ rfl rfl rfl)
    ·refine aA rfl hc_15 (ax (af ?_))
     obtain ⟨v_16,h_17,hc_9⟩:=bind_some hc_9
     refine aG (β:=Unit) (λ_=>([(0,(vL eI l_1)),(8,(vL eI l_1)),(9,(vI (l_1.length:Int))),(10,(vI (k_3:Int))),(28,(vB v_16))]:SL_)) (λ_=>([]:Hp)) (λ_=>True) ?_ ?_
     ·refine aa (ae (vI (k_3:Int)) wz rfl (ae (vB (decide ((k_3:Int)>0))) wz rfl ?_))
      rcases au h_17 with⟨hc_18,h_17⟩|⟨hc_18,h_17⟩
      ·refine aH rfl hc_18 wz (ae (vI x_5) wa rfl (ae (vL eI l_1) wa rfl (ae (vI (k_3:Int)) wa rfl (ae (vI (w64 ((k_3:Int)-1))) wa rfl ?_))))
       obtain ⟨y_19,hy_20,h_17⟩:=bind_some h_17
       refine dL iE rfl rfl hy_20 rfl wa (bz sz3 ag3 rfl (vI y_19) rfl wa (ae (vB (decide (x_5<=y_19))) wa rfl (ae (vB (decide (x_5<=y_19))) wz rfl (aj ?_))))
       obtain rfl:=ah h_17
       exact cu
      ·refine aH rfl hc_18 wz (ak wa (ak wa (ak wa (ak wa (ak wa (ak wa (ak wa (ae (vB false) wz rfl (aj ?_)))))))))
       obtain rfl:=ah h_17
       exact cu
     ·rintro ⟨⟩ _ sl_ H_ hp_ hq_
      refine aN _ hp_ hq_ ?_
      rcases au hc_9 with⟨hc_21,hc_9⟩|⟨hc_21,hc_9⟩
      ·refine aB rfl hc_21 (af (aa (ae (vI 7) wz rfl (aj ?_))))
       obtain rfl:=ah hc_9
       obtain rfl:=ah hL_10
       obtain rfl:=ah hF
       exact aC (bv (.inr rfl) [(vI 7)] ⟨rfl,trivial⟩ rfl rfl rfl)
      ·refine aA rfl hc_21 (ax (aa (gm (bH hD_6 hn_7) wz rfl (ae (vI ((k_3+1:Nat):Int)) wz rfl (aj ?_)))))
       obtain rfl:=ah hc_9
       exact aO (k_3+1,l_4,()) ⟨hL_10,aP hD_6⟩ (ls_ _) rfl (aK rfl)
  ·rintro s_8 ho_ sl_ H_ hp_ hq_
   subst ho_
   refine aN _ hp_ hq_ (af (aa (ae (vI 0) wz rfl (aj ?_))))
   obtain rfl:=ah hF
   exact aC (bv (.inr rfl) [(vI 0)] ⟨rfl,trivial⟩ rfl rfl rfl)
theorem xH {l_1:(List ByteArray)} {r:Int} (hF:mP l_1=some r) :
  FnM Tryz.prog 100 [(vL eS l_1)] [] (vI r) []:=by
 refine FnM.of_wH ⟨Tryz.prog,27,[],[]⟩ rfl Tryz.func100 rfl rfl (lb_ rfl) (by kernel_rfl) ?_
 unfold mP at hF
 refine af (aa (ae (vI 0) wz rfl (aj (af (af (aa (ae (vL eS l_1) wz rfl (bX Br rfl wz (ae (vI 0) wz rfl (aj ?_))))))))))
 obtain ⟨o_10,hj_11,hF⟩:=bind_some hF
 obtain ⟨hn_6,hj_11⟩:=bn hj_11
 refine aG (β:=(Unit)) (λ(s_7:Unit)=>([]:SL_)) (λ(s_7:Unit)=>([]:Hp)) (λp=>o_10 = .go p) ?_ ?_
 ·refine aD (aX (β:=Nat×(List ByteArray)×(Unit)) (λp=>(λ(k_2:Nat) (l_3:List ByteArray) (s_7:Unit)=>([(0,(vL eS l_1)),(5,(vL eS l_1)),(6,(vI (l_1.length:Int))),(7,(vI (k_2:Int)))]:SL_)) p.1 p.2.1 p.2.2) (λp=>(λ(k_2:Nat) (l_3:List ByteArray) (s_7:Unit)=>([]:Hp)) p.1 p.2.1 p.2.2) (λp=>dG (λk x s=>kK l_1 k x s) p.2.1 p.1 p.2.2=some o_10/\(l_1).drop p.1=p.2.1) (λp=>p.2.1.length) (0,l_1,()) ⟨hj_11,rfl⟩ rfl (aK rfl) ?_)
  rintro ⟨k_2,l_3,s_7⟩ ⟨hL_9,hD_5⟩
  dsimp only at hL_9 hD_5
  cases l_3 with
  | nil =>
   obtain rfl:=ah hL_9
   refine af (aa (ae (vB (decide ((k_2:Int)<(l_1.length:Int)))) wz rfl (aj ?_)))
   refine af (aA rfl (drop_nil hD_5) (aS ?_))
   exact aU (s_7) rfl rfl (aK rfl)
  | cons x_4 l_3 =>
   obtain ⟨c_,hc_8,hL_9⟩:=bind_some hL_9
   refine af (aa (ae (vB (decide ((k_2:Int)<(l_1.length:Int)))) wz rfl (aj ?_)))
   refine af (aB rfl (bE hD_5) (ax ?_))
   unfold kK at hc_8
   refine af (aD (af (aa (ae (vI (k_2:Int)) wz rfl (dL nZ rfl rfl (bL hD_5) rfl wz (bz sz9 ag9 rfl (vS x_4) rfl wz (ae (vI (k_2:Int)) wz rfl (ae (vS x_4) wz rfl (aj (af (af (aa (ae (vS x_4) wz rfl ?_)))))))))))))
   obtain ⟨r_12,hr_13,hc_8⟩:=bind_some hc_8
   refine aF (nX hr_13) rfl MW rfl rfl rfl rfl wz (ae (vB (!r_12)) wz rfl (aj ?_))
   rcases au hc_8 with⟨hc_14,hc_8⟩|⟨hc_14,hc_8⟩
   ·refine aB rfl hc_14 (af (aa (ae (vI 5) wz rfl (aj ?_))))
    obtain rfl:=ah hc_8
    obtain rfl:=ah hL_9
    obtain rfl:=ah hF
    exact aC (bv (.inr rfl) [(vI 5)] ⟨rfl,trivial⟩ rfl rfl rfl)
   ·refine aA rfl hc_14 (ax (af ?_))
    obtain ⟨v_15,h_16,hc_8⟩:=bind_some hc_8
    refine aG (β:=Unit) (λ_=>([(0,(vL eS l_1)),(5,(vL eS l_1)),(6,(vI (l_1.length:Int))),(7,(vI (k_2:Int))),(25,(vB v_15))]:SL_)) (λ_=>([]:Hp)) (λ_=>True) ?_ ?_
    ·refine aa (ae (vI (k_2:Int)) wz rfl (ae (vB (decide ((k_2:Int)>0))) wz rfl ?_))
     rcases au h_16 with⟨hc_17,h_16⟩|⟨hc_17,h_16⟩
     ·refine aH rfl hc_17 wz (ae (vS x_4) wa rfl (ae (vL eS l_1) wa rfl (ae (vI (k_2:Int)) wa rfl (ae (vI (w64 ((k_2:Int)-1))) wa rfl ?_))))
      obtain ⟨y_18,hy_19,h_16⟩:=bind_some h_16
      refine dL nZ rfl rfl hy_19 rfl wa (bz sz9 ag9 rfl (vS y_18) rfl wa (ae (vB (sLe x_4 y_18)) wa rfl (ae (vB (sLe x_4 y_18)) wz rfl (aj ?_))))
      obtain rfl:=ah h_16
      exact cu
     ·refine aH rfl hc_17 wz (ak wa (ak wa (ak wa (ak wa (ak wa (ak wa (ak wa (ae (vB false) wz rfl (aj ?_)))))))))
      obtain rfl:=ah h_16
      exact cu
    ·rintro ⟨⟩ _ sl_ H_ hp_ hq_
     refine aN _ hp_ hq_ ?_
     rcases au hc_8 with⟨hc_20,hc_8⟩|⟨hc_20,hc_8⟩
     ·refine aB rfl hc_20 (af (aa (ae (vI 7) wz rfl (aj ?_))))
      obtain rfl:=ah hc_8
      obtain rfl:=ah hL_9
      obtain rfl:=ah hF
      exact aC (bv (.inr rfl) [(vI 7)] ⟨rfl,trivial⟩ rfl rfl rfl)
     ·refine aA rfl hc_20 (ax (aa (gm (bH hD_5 hn_6) wz rfl (ae (vI ((k_2+1:Nat):Int)) wz rfl (aj ?_)))))
      obtain rfl:=ah hc_8
      exact aO (k_2+1,l_3,()) ⟨hL_9,aP hD_5⟩ (ls_ _) rfl (aK rfl)
 ·rintro s_7 ho_ sl_ H_ hp_ hq_
  subst ho_
  refine aN _ hp_ hq_ (af (aa (ae (vI 0) wz rfl (aj ?_))))
  obtain rfl:=ah hF
  exact aC (bv (.inr rfl) [(vI 0)] ⟨rfl,trivial⟩ rfl rfl rfl)
theorem ow {l_1:(List ByteArray)} {r:Int} (hF:iH l_1=some r) :
  FnM Tryz.prog 73 [(vL eS l_1)] [] (vI r) []:=by
 refine FnM.of_wH ⟨Tryz.prog,8,[],[]⟩ rfl Tryz.func73 rfl rfl (lb_ rfl) (by kernel_rfl) ?_
 unfold iH at hF
 refine af (aa (ae (vI 0) wz rfl (aj (af (af (aa (ae (vL eS l_1) wz rfl (bX Br rfl wz (ae (vB (decide ((l_1.length:Int)>20))) wz rfl (aj ?_))))))))))
 rcases au hF with⟨hc_2,hF⟩|⟨hc_2,hF⟩
 ·refine aB rfl hc_2 (af (aa (ae (vI 2) wz rfl (aj ?_))))
  obtain rfl:=ah hF
  exact aC (bv (.inr rfl) [(vI 2)] ⟨rfl,trivial⟩ rfl rfl rfl)
 ·refine aA rfl hc_2 (ax (af (aa (ae (vL eS l_1) wz rfl ?_))))
  obtain ⟨r_3,hr_4,hF⟩:=bind_some hF
  refine aF (xH hr_4) rfl hb100 rfl rfl rfl rfl wz (ae (vI r_3) wz rfl (aj ?_))
  obtain rfl:=ah hF
  exact aC (bv (.inr rfl) [(vI r_3)] ⟨rfl,trivial⟩ rfl rfl rfl)
theorem uj {e_1:Entry} {r:Int} (hF:jk e_1=some r) :
  FnM Tryz.prog 49 [(.d (.agg (Entry.enc e_1)))] [] (vI r) []:=by
 refine FnM.of_wH ⟨Tryz.prog,61,[],[]⟩ rfl Tryz.func49 rfl rfl (lb_ rfl) (by kernel_rfl) ?_
 unfold jk at hF
 refine af (aa (dZ 0 (.inl rfl) [(vS e_1.Key),(vS e_1.Item),(vI e_1.Version),(vI e_1.First),(vI e_1.Last),(vI e_1.Every),(vI e_1.Days),(vL eI e_1.Except),(vI e_1.From),(vI e_1.To),(vI e_1.Prio),(vL eS e_1.Tags),(vB e_1.Gone)] rfl rfl wz (λn_2=>ae (vI 0) wz rfl (aj (af (af ?_))))))
 obtain ⟨v_3,h_4,hF⟩:=bind_some hF
 refine aG (β:=Unit) (λ_=>([(1,(.ref n_2 0 0)),(13,(vB v_3))]:SL_)) (λ_=>([(n_2,some (.cells 13 [(vS e_1.Key),(vS e_1.Item),(vI e_1.Version),(vI e_1.First),(vI e_1.Last),(vI e_1.Every),(vI e_1.Days),(vL eI e_1.Except),(vI e_1.From),(vI e_1.To),(vI e_1.Prio),(vL eS e_1.Tags),(vB e_1.Gone)]))]:Hp)) (λ_=>True) ?_ ?_
 ·refine aa (aJ j5 rfl 0 rfl wz (ay 0 0 il ft sz9 ag9 rfl rfl (vS e_1.Key) rfl wz ?_))
  obtain ⟨r_5,hr_6,h_4⟩:=bind_some h_4
  refine aF (nX hr_6) rfl MW rfl rfl rfl rfl wz (ae (vB (!r_5)) wz rfl ?_)
  rcases au h_4 with⟨hc_7,h_4⟩|⟨hc_7,h_4⟩
  ·refine aH rfl hc_7 wz (ak wa (ak wa (ak wa (ak wa (ae (vB true) wz rfl (aj ?_))))))
   obtain rfl:=ah h_4
   exact cu
  ·refine aH rfl hc_7 wz (aJ yc rfl 1 rfl wa (ay 0 0 il ft sz9 ag9 rfl rfl (vS e_1.Item) rfl wa ?_))
   obtain ⟨r_8,hr_9,h_4⟩:=bind_some h_4
   refine aF (nX hr_9) rfl MW rfl rfl rfl rfl wa (ae (vB (!r_8)) wa rfl (ae (vB (!r_8)) wz rfl (aj ?_)))
   obtain rfl:=ah h_4
   exact cu
 ·rintro ⟨⟩ _ sl_ H_ hp_ hq_
  refine aN _ hp_ hq_ ?_
  rcases au hF with⟨hc_10,hF⟩|⟨hc_10,hF⟩
  ·refine aB rfl hc_10 (af (aa (ae (vI 5) wz rfl (aj ?_))))
   obtain rfl:=ah hF
   exact aC (bv (.inr rfl) [(vI 5)] ⟨rfl,trivial⟩ rfl rfl rfl)
  ·refine aA rfl hc_10 (ax (af (af ?_)))
   obtain ⟨v_11,h_12,hF⟩:=bind_some hF
   refine aG (β:=Unit) (λ_=>([(1,(.ref n_2 0 0)),(38,(vB v_11))]:SL_)) (λ_=>([(n_2,some (.cells 13 [(vS e_1.Key),(vS e_1.Item),(vI e_1.Version),(vI e_1.First),(vI e_1.Last),(vI e_1.Every),(vI e_1.Days),(vL eI e_1.Except),(vI e_1.From),(vI e_1.To),(vI e_1.Prio),(vL eS e_1.Tags),(vB e_1.Gone)]))]:Hp)) (λ_=>True) ?_ ?_
   ·refine aa (aJ Lv rfl 2 rfl wz (ay 0 0 il ft sz3 ag3 rfl rfl (vI e_1.Version) rfl wz ?_))
    obtain ⟨r_13,hr_14,h_12⟩:=bind_some h_12
    refine aF (fI hr_14) rfl Cw rfl rfl rfl rfl wz ?_
    rcases au h_12 with⟨hc_15,h_12⟩|⟨hc_15,h_12⟩
    ·refine aH rfl hc_15 wz (ak wa (ak wa (ak wa (ak wa (ak wa (ae (vB true) wz rfl (ae (vB true) wz rfl (ak wa (ak wa (ak wa (ae (vB true) wz rfl (ae (vB true) wz rfl (ak wa (ak wa (ak wa (ae (vB true) wz rfl (ae (vB true) wz rfl (ak wa (ak wa (ak wa (ae (vB true) wz rfl (aj ?_))))))))))))))))))))))
     obtain rfl:=ah h_12
     exact cu
    ·refine aH rfl hc_15 wz (aJ rf rfl 3 rfl wa (ay 0 0 il ft sz3 ag3 rfl rfl (vI e_1.First) rfl wa (aJ qV rfl 4 rfl wa (ay 0 0 il ft sz3 ag3 rfl rfl (vI e_1.Last) rfl wa ?_))))
     obtain ⟨r_16,hr_17,h_12⟩:=bind_some h_12
     refine aF (fI hr_17) rfl Cw rfl rfl rfl rfl wa (ae (vB r_16) wz rfl ?_)
     rcases au h_12 with⟨hc_18,h_12⟩|⟨hc_18,h_12⟩
     ·refine aH rfl hc_18 wz (ak wa (ak wa (ak wa (ae (vB true) wz rfl (ae (vB true) wz rfl (ak wa (ak wa (ak wa (ae (vB true) wz rfl (ae (vB true) wz rfl (ak wa (ak wa (ak wa (ae (vB true) wz rfl (aj ?_)))))))))))))))
      obtain rfl:=ah h_12
      exact cu
     ·refine aH rfl hc_18 wz (aJ qV rfl 4 rfl wa (ay 0 0 il ft sz3 ag3 rfl rfl (vI e_1.Last) rfl wa (ae (vB (decide (e_1.Last>4000))) wa rfl (ae (vB (decide (e_1.Last>4000))) wz rfl ?_))))
      rcases au h_12 with⟨hc_19,h_12⟩|⟨hc_19,h_12⟩
      ·refine aH rfl hc_19 wz (ak wa (ak wa (ak wa (ae (vB true) wz rfl (ae (vB true) wz rfl (ak wa (ak wa (ak wa (ae (vB true) wz rfl (aj ?_))))))))))
       obtain rfl:=ah h_12
       exact cu
      ·refine aH rfl hc_19 wz (aJ Cb rfl 5 rfl wa (ay 0 0 il ft sz3 ag3 rfl rfl (vI e_1.Every) rfl wa ?_))
       obtain ⟨r_20,hr_21,h_12⟩:=bind_some h_12
       refine aF (fI hr_21) rfl Cw rfl rfl rfl rfl wa (ae (vB r_20) wz rfl ?_)
       rcases au h_12 with⟨hc_22,h_12⟩|⟨hc_22,h_12⟩
       ·refine aH rfl hc_22 wz (ak wa (ak wa (ak wa (ae (vB true) wz rfl (aj ?_)))))
        obtain rfl:=ah h_12
        exact cu
       ·refine aH rfl hc_22 wz (aJ BB rfl 6 rfl wa (ay 0 0 il ft sz3 ag3 rfl rfl (vI e_1.Days) rfl wa ?_))
        obtain ⟨r_23,hr_24,h_12⟩:=bind_some h_12
        refine aF (fI hr_24) rfl Cw rfl rfl rfl rfl wa (ae (vB r_23) wz rfl (aj ?_))
        obtain rfl:=ah h_12
        exact cu
   ·rintro ⟨⟩ _ sl_ H_ hp_ hq_
    refine aN _ hp_ hq_ ?_
    rcases au hF with⟨hc_25,hF⟩|⟨hc_25,hF⟩
    ·refine aB rfl hc_25 (af (aa (ae (vI 1) wz rfl (aj ?_))))
     obtain rfl:=ah hF
     exact aC (bv (.inr rfl) [(vI 1)] ⟨rfl,trivial⟩ rfl rfl rfl)
    ·refine aA rfl hc_25 (ax (af (af (aa (aJ rT rfl 7 rfl wz (ay 0 0 il ft qw sH rfl rfl (vL eI e_1.Except) rfl wz ?_))))))
     obtain ⟨r_26,hr_27,hF⟩:=bind_some hF
     refine aF (sV hr_27) rfl hb72 rfl rfl rfl rfl wz (ae (vI r_26) wz rfl (aj (af (aa (ae (vI r_26) wz rfl (ae (vB (r_26 != 0)) wz rfl (aj ?_)))))))
     rcases au hF with⟨hc_28,hF⟩|⟨hc_28,hF⟩
     ·refine aB rfl hc_28 (af (aa (ae (vI r_26) wz rfl (ae (vI r_26) wz rfl (aj ?_)))))
      obtain rfl:=ah hF
      exact aC (bv (.inr rfl) [(vI r_26)] ⟨rfl,trivial⟩ rfl rfl rfl)
     ·refine aA rfl hc_28 (ax (af (af ?_)))
      obtain ⟨v_29,h_30,hF⟩:=bind_some hF
      refine aG (β:=Unit) (λ_=>([(1,(.ref n_2 0 0)),(57,(vB v_29))]:SL_)) (λ_=>([(n_2,some (.cells 13 [(vS e_1.Key),(vS e_1.Item),(vI e_1.Version),(vI e_1.First),(vI e_1.Last),(vI e_1.Every),(vI e_1.Days),(vL eI e_1.Except),(vI e_1.From),(vI e_1.To),(vI e_1.Prio),(vL eS e_1.Tags),(vB e_1.Gone)]))]:Hp)) (λ_=>True) ?_ ?_
      ·refine aa (aJ xK rfl 8 rfl wz (ay 0 0 il ft sz3 ag3 rfl rfl (vI e_1.From) rfl wz ?_))
       obtain ⟨r_31,hr_32,h_30⟩:=bind_some h_30
       refine aF (fI hr_32) rfl Cw rfl rfl rfl rfl wz ?_
       rcases au h_30 with⟨hc_33,h_30⟩|⟨hc_33,h_30⟩
       ·refine aH rfl hc_33 wz (ak wa (ak wa (ak wa (ae (vB true) wz rfl (ae (vB true) wz rfl (ak wa (ak wa (ak wa (ae (vB true) wz rfl (aj ?_))))))))))
        obtain rfl:=ah h_30
        exact cu
       ·refine aH rfl hc_33 wz (aJ BV rfl 9 rfl wa (ay 0 0 il ft sz3 ag3 rfl rfl (vI e_1.To) rfl wa ?_))
        obtain ⟨r_34,hr_35,h_30⟩:=bind_some h_30
        refine aF (fI hr_35) rfl Cw rfl rfl rfl rfl wa (ae (vB r_34) wz rfl ?_)
        rcases au h_30 with⟨hc_36,h_30⟩|⟨hc_36,h_30⟩
        ·refine aH rfl hc_36 wz (ak wa (ak wa (ak wa (ae (vB true) wz rfl (aj ?_)))))
         obtain rfl:=ah h_30
         exact cu
        ·refine aH rfl hc_36 wz (aJ mQ rfl 10 rfl wa (ay 0 0 il ft sz3 ag3 rfl rfl (vI e_1.Prio) rfl wa ?_))
         obtain ⟨r_37,hr_38,h_30⟩:=bind_some h_30
         refine aF (fI hr_38) rfl Cw rfl rfl rfl rfl wa (ae (vB r_37) wz rfl (aj ?_))
         obtain rfl:=ah h_30
         exact cu
      ·rintro ⟨⟩ _ sl_ H_ hp_ hq_
       refine aN _ hp_ hq_ ?_
       rcases au hF with⟨hc_39,hF⟩|⟨hc_39,hF⟩
       ·refine aB rfl hc_39 (af (aa (ae (vI 1) wz rfl (aj ?_))))
        obtain rfl:=ah hF
        exact aC (bv (.inr rfl) [(vI 1)] ⟨rfl,trivial⟩ rfl rfl rfl)
       ·refine aA rfl hc_39 (ax (af (aa (aJ ug rfl 11 rfl wz (ay 0 0 il ft yT Bb rfl rfl (vL eS e_1.Tags) rfl wz ?_)))))
        obtain ⟨r_40,hr_41,hF⟩:=bind_some hF
        refine aF (ow hr_41) rfl hb73 rfl rfl rfl rfl wz (ae (vI r_40) wz rfl (aj ?_))
        obtain rfl:=ah hF
        exact aC (bv (.inr rfl) [(vI r_40)] ⟨rfl,trivial⟩ rfl rfl rfl)
theorem iM {l_1:(List Entry)} {r:Int} (hF:bG l_1=some r) :
  FnM Tryz.prog 29 [(vL Entry.enc l_1)] [] (vI r) []:=by
 refine FnM.of_wH ⟨Tryz.prog,35,[],[]⟩ rfl Tryz.func29 rfl rfl (lb_ rfl) (by kernel_rfl) ?_
 unfold bG at hF
 refine af (aa (ae (vI 0) wz rfl (aj (af (af (aa (ae (vL Entry.enc l_1) wz rfl (bX qb rfl wz (ae (vB (decide ((l_1.length:Int)>200))) wz rfl (aj ?_))))))))))
 rcases au hF with⟨hc_2,hF⟩|⟨hc_2,hF⟩
 ·refine aB rfl hc_2 (af (aa (ae (vI 2) wz rfl (aj ?_))))
  obtain rfl:=ah hF
  exact aC (bv (.inr rfl) [(vI 2)] ⟨rfl,trivial⟩ rfl rfl rfl)
 ·refine aA rfl hc_2 (ax (af (af (aa (ae (vL Entry.enc l_1) wz rfl (bX qb rfl wz (ae (vI 0) wz rfl (aj ?_))))))))
  obtain ⟨o_11,hj_12,hF⟩:=bind_some hF
  obtain ⟨hn_7,hj_12⟩:=bn hj_12
  refine aG (β:=(Unit)) (λ(s_8:Unit)=>([]:SL_)) (λ(s_8:Unit)=>([]:Hp)) (λp=>o_11 = .go p) ?_ ?_
  ·refine aD (aX (β:=Nat×(List Entry)×(Unit)) (λp=>(λ(k_3:Nat) (l_4:List Entry) (s_8:Unit)=>([(0,(vL Entry.enc l_1)),(9,(vL Entry.enc l_1)),(10,(vI (l_1.length:Int))),(11,(vI (k_3:Int)))]:SL_)) p.1 p.2.1 p.2.2) (λp=>(λ(k_3:Nat) (l_4:List Entry) (s_8:Unit)=>([]:Hp)) p.1 p.2.1 p.2.2) (λp=>dG (λk x s=>gp l_1 k x s) p.2.1 p.1 p.2.2=some o_11/\(l_1).drop p.1=p.2.1) (λp=>p.2.1.length) (0,l_1,()) ⟨hj_12,rfl⟩ rfl (aK rfl) ?_)
   rintro ⟨k_3,l_4,s_8⟩ ⟨hL_10,hD_6⟩
   dsimp only at hL_10 hD_6
   cases l_4 with
   | nil =>
    obtain rfl:=ah hL_10
    refine af (aa (ae (vB (decide ((k_3:Int)<(l_1.length:Int)))) wz rfl (aj ?_)))
    refine af (aA rfl (drop_nil hD_6) (aS ?_))
    exact aU (s_8) rfl rfl (aK rfl)
   | cons x_5 l_4 =>
    obtain ⟨c_,hc_9,hL_10⟩:=bind_some hL_10
    refine af (aa (ae (vB (decide ((k_3:Int)<(l_1.length:Int)))) wz rfl (aj ?_)))
    refine af (aB rfl (bE hD_6) (ax ?_))
    unfold gp at hc_9
    refine af (aD (af (aa (ae (vI (k_3:Int)) wz rfl (dL mE rfl rfl (bL hD_6) rfl wz (bz gK jR rfl (.d (.agg (Entry.enc x_5))) rfl wz (bR 0 (.inl rfl) z38 rfl wz (λn_13=>ae (vI (k_3:Int)) wz rfl (eu 0 il ft 0 gK rfl rfl [(vS x_5.Key),(vS x_5.Item),(vI x_5.Version),(vI x_5.First),(vI x_5.Last),(vI x_5.Every),(vI x_5.Days),(vL eI x_5.Except),(vI x_5.From),(vI x_5.To),(vI x_5.Prio),(vL eS x_5.Tags),(vB x_5.Gone)] rfl wz (aj (af (af (aa (ay 0 0 il ft gK jR rfl rfl (.d (.agg (Entry.enc x_5))) rfl wz ?_))))))))))))))
    obtain ⟨r_14,hr_15,hc_9⟩:=bind_some hc_9
    refine aF (uj hr_15) rfl hb49 rfl rfl rfl rfl wz (ae (vI r_14) wz rfl (aj (af (aa (ae (vI r_14) wz rfl (ae (vB (r_14 != 0)) wz rfl (aj ?_)))))))
    rcases au hc_9 with⟨hc_16,hc_9⟩|⟨hc_16,hc_9⟩
    ·refine aB rfl hc_16 (af (aa (ae (vI r_14) wz rfl (ae (vI r_14) wz rfl (aj ?_)))))
     obtain rfl:=ah hc_9
     obtain rfl:=ah hL_10
     obtain rfl:=ah hF
     exact aC (bv (.inr rfl) [(vI r_14)] ⟨rfl,trivial⟩ rfl rfl rfl)
    ·refine aA rfl hc_16 (ax (af ?_))
     obtain ⟨v_17,h_18,hc_9⟩:=bind_some hc_9
     refine aG (β:=Unit) (λ_=>([(0,(vL Entry.enc l_1)),(9,(vL Entry.enc l_1)),(10,(vI (l_1.length:Int))),(11,(vI (k_3:Int))),(33,(vB v_17))]:SL_)) (λ_=>([(n_13,some (.cells 13 [(vS x_5.Key),(vS x_5.Item),(vI x_5.Version),(vI x_5.First),(vI x_5.Last),(vI x_5.Every),(vI x_5.Days),(vL eI x_5.Except),(vI x_5.From),(vI x_5.To),(vI x_5.Prio),(vL eS x_5.Tags),(vB x_5.Gone)]))]:Hp)) (λ_=>True) ?_ ?_
     ·refine bN (ae (vI (k_3:Int)) wz rfl (ae (vB (decide ((k_3:Int)>0))) wz rfl ?_))
      rcases au h_18 with⟨hc_19,h_18⟩|⟨hc_19,h_18⟩
      ·refine aH rfl hc_19 wz (aJ j5 rfl 0 rfl wa (ay 4 0 (.inr (by kernel_rfl)) (λ_ _ ag=>trivial) sz9 ag9 rfl rfl (vS x_5.Key) rfl wa (ae (vL Entry.enc l_1) wa rfl (ae (vI (k_3:Int)) wa rfl (ae (vI (w64 ((k_3:Int)-1))) wa rfl ?_)))))
       obtain ⟨y_20,hy_21,h_18⟩:=bind_some h_18
       refine dL mE rfl rfl hy_21 rfl wa (mF j5 rfl (Entry.enc y_20) rfl rfl wa (bz sz9 ag9 rfl (vS y_20.Key) rfl wa (ae (vB (sLe x_5.Key y_20.Key)) wa rfl (ae (vB (sLe x_5.Key y_20.Key)) wz rfl (aj ?_)))))
       obtain rfl:=ah h_18
       exact cu
      ·refine aH rfl hc_19 wz (ak wa (ak wa (ak wa (ak wa (ak wa (ak wa (ak wa (ak wa (ak wa (ae (vB false) wz rfl (aj ?_)))))))))))
       obtain rfl:=ah h_18
       exact cu
     ·rintro ⟨⟩ _ sl_ H_ hp_ hq_
      refine aN _ hp_ hq_ ?_
      rcases au hc_9 with⟨hc_22,hc_9⟩|⟨hc_22,hc_9⟩
      ·refine aB rfl hc_22 (af (aa (ae (vI 7) wz rfl (aj ?_))))
       obtain rfl:=ah hc_9
       obtain rfl:=ah hL_10
       obtain rfl:=ah hF
       exact aC (bv (.inr rfl) [(vI 7)] ⟨rfl,trivial⟩ rfl rfl rfl)
      ·refine aA rfl hc_22 (ax (aa (gm (bH hD_6 hn_7) wz rfl (ae (vI ((k_3+1:Nat):Int)) wz rfl (aj ?_)))))
       obtain rfl:=ah hc_9
       exact aO (k_3+1,l_4,()) ⟨hL_10,aP hD_6⟩ (ls_ _) rfl (aK rfl)
  ·rintro s_8 ho_ sl_ H_ hp_ hq_
   subst ho_
   refine aN _ hp_ hq_ (af (aa (ae (vI 0) wz rfl (aj ?_))))
   obtain rfl:=ah hF
   exact aC (bv (.inr rfl) [(vI 0)] ⟨rfl,trivial⟩ rfl rfl rfl)
theorem sw {p_1:Player} {r:Int} (hF:iU p_1=some r) :
  FnM Tryz.prog 50 [(.d (.agg (Player.enc p_1)))] [] (vI r) []:=by
 refine FnM.of_wH ⟨Tryz.prog,19,[],[]⟩ rfl Tryz.func50 rfl rfl (lb_ rfl) (by kernel_rfl) ?_
 unfold iU at hF
 refine af (aa (dZ 0 (.inl rfl) [(vS p_1.Key),(vS p_1.Screen),(vI p_1.Zone),(vL eS p_1.Tags)] rfl rfl wz (λn_2=>ae (vI 0) wz rfl (aj (af (af ?_))))))
 obtain ⟨v_3,h_4,hF⟩:=bind_some hF
 refine aG (β:=Unit) (λ_=>([(1,(.ref n_2 0 0)),(12,(vB v_3))]:SL_)) (λ_=>([(n_2,some (.cells 4 [(vS p_1.Key),(vS p_1.Screen),(vI p_1.Zone),(vL eS p_1.Tags)]))]:Hp)) (λ_=>True) ?_ ?_
 ·refine aa (aJ MG rfl 0 rfl wz (ay 0 0 il ft sz9 ag9 rfl rfl (vS p_1.Key) rfl wz ?_))
  obtain ⟨r_5,hr_6,h_4⟩:=bind_some h_4
  refine aF (nX hr_6) rfl MW rfl rfl rfl rfl wz (ae (vB (!r_5)) wz rfl ?_)
  rcases au h_4 with⟨hc_7,h_4⟩|⟨hc_7,h_4⟩
  ·refine aH rfl hc_7 wz (ak wa (ak wa (ak wa (ak wa (ae (vB true) wz rfl (aj ?_))))))
   obtain rfl:=ah h_4
   exact cu
  ·refine aH rfl hc_7 wz (aJ M9 rfl 1 rfl wa (ay 0 0 il ft sz9 ag9 rfl rfl (vS p_1.Screen) rfl wa ?_))
   obtain ⟨r_8,hr_9,h_4⟩:=bind_some h_4
   refine aF (nX hr_9) rfl MW rfl rfl rfl rfl wa (ae (vB (!r_8)) wa rfl (ae (vB (!r_8)) wz rfl (aj ?_)))
   obtain rfl:=ah h_4
   exact cu
 ·rintro ⟨⟩ _ sl_ H_ hp_ hq_
  refine aN _ hp_ hq_ ?_
  rcases au hF with⟨hc_10,hF⟩|⟨hc_10,hF⟩
  ·refine aB rfl hc_10 (af (aa (ae (vI 5) wz rfl (aj ?_))))
   obtain rfl:=ah hF
   exact aC (bv (.inr rfl) [(vI 5)] ⟨rfl,trivial⟩ rfl rfl rfl)
  ·refine aA rfl hc_10 (ax (af (af (aa (aJ uD rfl 2 rfl wz (ay 0 0 il ft sz3 ag3 rfl rfl (vI p_1.Zone) rfl wz ?_))))))
   obtain ⟨r_11,hr_12,hF⟩:=bind_some hF
   refine aF (fI hr_12) rfl Cw rfl rfl rfl rfl wz (aj ?_)
   rcases au hF with⟨hc_13,hF⟩|⟨hc_13,hF⟩
   ·refine aB rfl hc_13 (af (aa (ae (vI 1) wz rfl (aj ?_))))
    obtain rfl:=ah hF
    exact aC (bv (.inr rfl) [(vI 1)] ⟨rfl,trivial⟩ rfl rfl rfl)
   ·refine aA rfl hc_13 (ax (af (aa (aJ FY rfl 3 rfl wz (ay 0 0 il ft yT Bb rfl rfl (vL eS p_1.Tags) rfl wz ?_)))))
    obtain ⟨r_14,hr_15,hF⟩:=bind_some hF
    refine aF (ow hr_15) rfl hb73 rfl rfl rfl rfl wz (ae (vI r_14) wz rfl (aj ?_))
    obtain rfl:=ah hF
    exact aC (bv (.inr rfl) [(vI r_14)] ⟨rfl,trivial⟩ rfl rfl rfl)
theorem ko {wv_1:Window} {r:Int} (hF:eO wv_1=some r) :
  FnM Tryz.prog 34 [(.d (.agg (Window.enc wv_1)))] [] (vI r) []:=by
 refine FnM.of_wH ⟨Tryz.prog,19,[],[]⟩ rfl Tryz.func34 rfl rfl (lb_ rfl) (by kernel_rfl) ?_
 unfold eO at hF
 refine af (aa (dZ 0 (.inl rfl) [(vI wv_1.From),(vI wv_1.To)] rfl rfl wz (λn_2=>ae (vI 0) wz rfl (aj (af (af ?_))))))
 obtain ⟨v_3,h_4,hF⟩:=bind_some hF
 refine aG (β:=Unit) (λ_=>([(1,(.ref n_2 0 0)),(12,(vB v_3))]:SL_)) (λ_=>([(n_2,some (.cells 2 [(vI wv_1.From),(vI wv_1.To)]))]:Hp)) (λ_=>True) ?_ ?_
 ·refine aa (aJ fw rfl 0 rfl wz (ay 0 0 il ft sz3 ag3 rfl rfl (vI wv_1.From) rfl wz (aJ dX rfl 1 rfl wz (ay 0 0 il ft sz3 ag3 rfl rfl (vI wv_1.To) rfl wz ?_))))
  obtain ⟨r_5,hr_6,h_4⟩:=bind_some h_4
  refine aF (fI hr_6) rfl Cw rfl rfl rfl rfl wz ?_
  rcases au h_4 with⟨hc_7,h_4⟩|⟨hc_7,h_4⟩
  ·refine aH rfl hc_7 wz (ak wa (ak wa (ak wa (ae (vB true) wz rfl (aj ?_)))))
   obtain rfl:=ah h_4
   exact cu
  ·refine aH rfl hc_7 wz (aJ dX rfl 1 rfl wa (ay 0 0 il ft sz3 ag3 rfl rfl (vI wv_1.To) rfl wa (ae (vB (decide (wv_1.To>345686400000))) wa rfl (ae (vB (decide (wv_1.To>345686400000))) wz rfl (aj ?_)))))
   obtain rfl:=ah h_4
   exact cu
 ·rintro ⟨⟩ _ sl_ H_ hp_ hq_
  refine aN _ hp_ hq_ ?_
  rcases au hF with⟨hc_8,hF⟩|⟨hc_8,hF⟩
  ·refine aB rfl hc_8 (af (aa (ae (vI 1) wz rfl (aj ?_))))
   obtain rfl:=ah hF
   exact aC (bv (.inr rfl) [(vI 1)] ⟨rfl,trivial⟩ rfl rfl rfl)
  ·refine aA rfl hc_8 (ax (af (af (aa (aJ dX rfl 1 rfl wz (ay 0 0 il ft sz3 ag3 rfl rfl (vI wv_1.To) rfl wz (aJ fw rfl 0 rfl wz (ay 0 0 il ft sz3 ag3 rfl rfl (vI wv_1.From) rfl wz (ae (vI (w64 (wv_1.To-wv_1.From))) wz rfl (ae (vB (decide ((w64 (wv_1.To-wv_1.From))>34560000000))) wz rfl (aj ?_)))))))))))
   rcases au hF with⟨hc_9,hF⟩|⟨hc_9,hF⟩
   ·refine aB rfl hc_9 (af (aa (ae (vI 2) wz rfl (aj ?_))))
    obtain rfl:=ah hF
    exact aC (bv (.inr rfl) [(vI 2)] ⟨rfl,trivial⟩ rfl rfl rfl)
   ·refine aA rfl hc_9 (ax (af (aa (ae (vI 0) wz rfl (aj ?_)))))
    obtain rfl:=ah hF
    exact aC (bv (.inr rfl) [(vI 0)] ⟨rfl,trivial⟩ rfl rfl rfl)
theorem u7 {l_1:(List Entry)} {p_2:Player} {wv_3:Window} {r:Int} (hF:gq l_1 p_2 wv_3=some r) :
  FnM Tryz.prog 30 [(vL Entry.enc l_1),(.d (.agg (Player.enc p_2))),(.d (.agg (Window.enc wv_3)))] [] (vI r) []:=by
 refine FnM.of_wH ⟨Tryz.prog,21,[],[]⟩ rfl Tryz.func30 rfl rfl (lb_ rfl) (by kernel_rfl) ?_
 unfold gq at hF
 refine af (aa (dZ 0 (.inl rfl) [(vS p_2.Key),(vS p_2.Screen),(vI p_2.Zone),(vL eS p_2.Tags)] rfl rfl wz (λn_4=>dZ 0 (.inl rfl) [(vI wv_3.From),(vI wv_3.To)] rfl rfl wz (λn_5=>ae (vI 0) wz rfl (aj (af (af (aa (ae (vL Entry.enc l_1) wz rfl ?_)))))))))
 obtain ⟨r_6,hr_7,hF⟩:=bind_some hF
 refine aF (iM hr_7) rfl hb29 rfl rfl rfl rfl wz (ae (vI r_6) wz rfl (aj (af (aa (ae (vI r_6) wz rfl (ae (vB (r_6 != 0)) wz rfl (aj ?_)))))))
 rcases au hF with⟨hc_8,hF⟩|⟨hc_8,hF⟩
 ·refine aB rfl hc_8 (af (aa (ae (vI r_6) wz rfl (ae (vI r_6) wz rfl (aj ?_)))))
  obtain rfl:=ah hF
  exact aC (bv (.inr rfl) [(vI r_6)] ⟨rfl,trivial⟩ rfl rfl rfl)
 ·refine aA rfl hc_8 (ax (af (af (aa (ay 0 0 il ft p8 uI rfl rfl (.d (.agg (Player.enc p_2))) rfl wz ?_)))))
  obtain ⟨r_9,hr_10,hF⟩:=bind_some hF
  refine aF (sw hr_10) rfl hb50 rfl rfl rfl rfl wz (ae (vI r_9) wz rfl (aj (af (aa (ae (vI r_9) wz rfl (ae (vB (r_9 != 0)) wz rfl (aj ?_)))))))
  rcases au hF with⟨hc_11,hF⟩|⟨hc_11,hF⟩
  ·refine aB rfl hc_11 (af (aa (ae (vI r_9) wz rfl (ae (vI r_9) wz rfl (aj ?_)))))
   obtain rfl:=ah hF
   exact aC (bv (.inr rfl) [(vI r_9)] ⟨rfl,trivial⟩ rfl rfl rfl)
  ·refine aA rfl hc_11 (ax (af (aa (ay 0 1 il ft eP iO rfl rfl (.d (.agg (Window.enc wv_3))) rfl wz ?_))))
   obtain ⟨r_12,hr_13,hF⟩:=bind_some hF
   refine aF (ko hr_13) rfl hb34 rfl rfl rfl rfl wz (ae (vI r_12) wz rfl (aj ?_))
   obtain rfl:=ah hF
   exact aC (bv (.inr rfl) [(vI r_12)] ⟨rfl,trivial⟩ rfl rfl rfl)
theorem pV {x_1:ByteArray} {r:Bool} (hF:cmp_isNaN_string x_1=some r) :
  FnM Tryz.prog 142 [(vS x_1)] [] (vB r) []:=by
 refine FnM.of_wH ⟨Tryz.prog,6,[],[]⟩ rfl Tryz.func142 rfl rfl (lb_ rfl) (by kernel_rfl) ?_
 unfold cmp_isNaN_string at hF
 refine af (aa (ae (vB false) wz rfl (aj (af (aa (ae (vS x_1) wz rfl (ae (vS x_1) wz rfl (ae (vB (sNe x_1 x_1)) wz rfl (ae (vB (sNe x_1 x_1)) wz rfl (aj ?_))))))))))
 obtain rfl:=ah hF
 exact aC (bv (.inr rfl) [(vB (sNe x_1 x_1))] ⟨rfl,trivial⟩ rfl rfl rfl)
theorem yg {x_1:ByteArray} {y_2:ByteArray} {r:Bool} (hF:cmp_Less_string x_1 y_2=some r) :
  FnM Tryz.prog 124 [(vS x_1),(vS y_2)] [] (vB r) []:=by
 refine FnM.of_wH ⟨Tryz.prog,17,[],[]⟩ rfl Tryz.func124 rfl rfl (lb_ rfl) (by kernel_rfl) ?_
 unfold cmp_Less_string at hF
 refine af (aa (ae (vB false) wz rfl (aj (af ?_))))
 obtain ⟨v_3,h_4,hF⟩:=bind_some hF
 refine aG (β:=Unit) (λ_=>([(4,(vB v_3))]:SL_)) (λ_=>([]:Hp)) (λ_=>True) ?_ ?_
 ·refine aa (ae (vS x_1) wz rfl ?_)
  obtain ⟨r_5,hr_6,h_4⟩:=bind_some h_4
  refine aF (pV hr_6) rfl hb142 rfl rfl rfl rfl wz ?_
  rcases au h_4 with⟨hc_7,h_4⟩|⟨hc_7,h_4⟩
  ·refine aH rfl hc_7 wz (ae (vS y_2) wa rfl ?_)
   obtain ⟨r_8,hr_9,h_4⟩:=bind_some h_4
   refine aF (pV hr_9) rfl hb142 rfl rfl rfl rfl wa (ae (vB (!r_8)) wa rfl (ae (vB (!r_8)) wz rfl ?_))
   rcases au h_4 with⟨hc_10,h_4⟩|⟨hc_10,h_4⟩
   ·refine aH rfl hc_10 wz (ak wa (ak wa (ak wa (ae (vB true) wz rfl (ae (vB true) wz rfl (aj ?_))))))
    obtain rfl:=ah h_4
    exact cu
   ·refine aH rfl hc_10 wz (ae (vS x_1) wa rfl (ae (vS y_2) wa rfl (ae (vB (sLt x_1 y_2)) wa rfl (ae (vB (sLt x_1 y_2)) wz rfl (ae (vB (sLt x_1 y_2)) wz rfl (aj ?_))))))
    obtain rfl:=ah h_4
    exact cu
  ·refine aH rfl hc_7 wz (ak wa (ak wa (ak wa (ae (vB false) wz rfl (ae (vB false) wz rfl (ae (vS x_1) wa rfl (ae (vS y_2) wa rfl (ae (vB (sLt x_1 y_2)) wa rfl (ae (vB (sLt x_1 y_2)) wz rfl (ae (vB (sLt x_1 y_2)) wz rfl (aj ?_)))))))))))
   obtain rfl:=ah h_4
   exact cu
 ·rintro ⟨⟩ _ sl_ H_ hp_ hq_
  refine aN _ hp_ hq_ ?_
  obtain rfl:=ah hF
  exact aC (bv (.inr rfl) [(vB v_3)] ⟨rfl,trivial⟩ rfl rfl rfl)
theorem nV {x_1:ByteArray} {r:Bool} (hF:slices_isNaN_string x_1=some r) :
  FnM Tryz.prog 125 [(vS x_1)] [] (vB r) []:=by
 refine FnM.of_wH ⟨Tryz.prog,6,[],[]⟩ rfl Tryz.func125 rfl rfl (lb_ rfl) (by kernel_rfl) ?_
 unfold slices_isNaN_string at hF
 refine af (aa (ae (vB false) wz rfl (aj (af (aa (ae (vS x_1) wz rfl (ae (vS x_1) wz rfl (ae (vB (sNe x_1 x_1)) wz rfl (ae (vB (sNe x_1 x_1)) wz rfl (aj ?_))))))))))
 obtain rfl:=ah hF
 exact aC (bv (.inr rfl) [(vB (sNe x_1 x_1))] ⟨rfl,trivial⟩ rfl rfl rfl)
theorem mh {x_1:(List ByteArray)} {target_2:ByteArray} {r:Int×Bool} (hF:dH x_1 target_2=some r) :
  FnM Tryz.prog 101 [(vL eS x_1),(vS target_2)] [] (.tup [(vI r.1),(vB r.2)]) []:=by
 refine FnM.of_wH ⟨Tryz.prog,54,[],[]⟩ rfl Tryz.func101 rfl rfl (lb_ rfl) (by kernel_rfl) ?_
 unfold dH at hF
 refine af (aa (ae (vI 0) wz rfl (ae (vB false) wz rfl (aj (af (aa (ae (vL eS x_1) wz rfl (bX Br rfl wz (ae (vI (x_1.length:Int)) wz rfl (aj (af (aa (ae (vI (x_1.length:Int)) wz rfl (ae (vI 0) wz rfl (ae (vI (x_1.length:Int)) wz rfl (aj (af ?_)))))))))))))))))
 obtain ⟨o_11,hj_12,hF⟩:=bind_some hF
 obtain ⟨nq_34,hj_12⟩:=ek hj_12
 refine aG (β:=(Int×Int)) (λ(s_8:Int×Int)=>([(0,(vL eS x_1)),(1,(vS target_2)),(6,(vI (x_1.length:Int))),(7,(vI s_8.1))]:SL_)) (λ(s_8:Int×Int)=>([]:Hp)) (λp=>o_11 = .go p) ?_ ?_
 ·refine aD (aX (β:=Nat×(Int×Int)) (λp=>(λ(k_3:Nat) (s_8:Int×Int)=>([(0,(vL eS x_1)),(1,(vS target_2)),(6,(vI (x_1.length:Int))),(7,(vI s_8.1)),(8,(vI s_8.2))]:SL_)) p.1 p.2) (λp=>(λ(k_3:Nat) (s_8:Int×Int)=>([]:Hp)) p.1 p.2) (λp=>cO (λs=>aQ x_1 target_2 s) p.1 p.2=some o_11) (λp=>p.1) (nq_34,(0,(x_1.length:Int))) hj_12 rfl (aK rfl) ?_)
  rintro ⟨k_3,s_8⟩ hL_10
  dsimp only at hL_10
  cases k_3 with
  | zero=>cases hL_10
  | succ k_3 =>
   obtain ⟨c_,hc_9,hL_10⟩:=bind_some hL_10
   unfold aQ at hc_9
   refine af (af (aa (ae (vI s_8.1) wz rfl (ae (vI s_8.2) wz rfl (ae (vB (decide (s_8.1<s_8.2))) wz rfl (aj ?_))))))
   rcases au hc_9 with⟨hc_13,hc_9⟩|⟨hc_13,hc_9⟩
   ·refine aB rfl hc_13 (ax (aD (af (aa (ae (vI s_8.1) wz rfl (ae (vI s_8.2) wz rfl (ae (vI (w64 (s_8.1+s_8.2))) wz rfl (xY un3 GI rfl wz ?_))))))))
    obtain ⟨q_14,hz_15,hc_9⟩:=bind_some hc_9
    refine Ep rfl rfl hz_15 wz (xY GI un3 rfl wz (ae (vI (w64 q_14)) wz rfl (aj (af (aa (ae (vL eS x_1) wz rfl (ae (vI (w64 q_14)) wz rfl ?_)))))))
    obtain ⟨y_16,hy_17,hc_9⟩:=bind_some hc_9
    refine dL nZ rfl rfl hy_17 rfl wz (bz sz9 ag9 rfl (vS y_16) rfl wz (ae (vS target_2) wz rfl ?_))
    obtain ⟨r_18,hr_19,hc_9⟩:=bind_some hc_9
    refine aF (yg hr_19) rfl hb124 rfl rfl rfl rfl wz (aj ?_)
    rcases au hc_9 with⟨hc_20,hc_9⟩|⟨hc_20,hc_9⟩
    ·refine aB rfl hc_20 (aa (ae (vI (w64 q_14)) wz rfl (ae (vI (w64 ((w64 q_14)+1))) wz rfl (ae (vI (w64 ((w64 q_14)+1))) wz rfl (aj ?_)))))
     obtain rfl:=ah hc_9
     exact aO (k_3,((w64 ((w64 q_14)+1)),s_8.2)) hL_10 (ls_ _) rfl (aK rfl)
    ·refine aA rfl hc_20 (aa (ae (vI (w64 q_14)) wz rfl (ae (vI (w64 q_14)) wz rfl (aj ?_))))
     obtain rfl:=ah hc_9
     exact aO (k_3,(s_8.1,(w64 q_14))) hL_10 (ls_ _) rfl (aK rfl)
   ·refine aA rfl hc_13 (aS ?_)
    obtain rfl:=ah hc_9
    obtain rfl:=ah hL_10
    exact aU ((s_8.1,s_8.2)) rfl rfl (aK rfl)
 ·rintro s_8 ho_ sl_ H_ hp_ hq_
  subst ho_
  refine aN _ hp_ hq_ (af ?_)
  obtain ⟨v_21,h_22,hF⟩:=bind_some hF
  refine aG (β:=Unit) (λ_=>([(4,(vI s_8.1)),(5,(vB v_21))]:SL_)) (λ_=>([]:Hp)) (λ_=>True) ?_ ?_
  ·refine aa (ae (vI s_8.1) wz rfl (ae (vI s_8.1) wz rfl (ae (vI (x_1.length:Int)) wz rfl (ae (vB (decide (s_8.1<(x_1.length:Int)))) wz rfl ?_))))
   rcases au h_22 with⟨hc_23,h_22⟩|⟨hc_23,h_22⟩
   ·refine aH rfl hc_23 wz (ae (vL eS x_1) wa rfl (ae (vI s_8.1) wa rfl ?_))
    obtain ⟨y_24,hy_25,h_22⟩:=bind_some h_22
    refine dL nZ rfl rfl hy_25 rfl wa (bz sz9 ag9 rfl (vS y_24) rfl wa (ae (vS target_2) wa rfl (ae (vB (sEq y_24 target_2)) wa rfl ?_)))
    rcases au h_22 with⟨hc_26,h_22⟩|⟨hc_26,h_22⟩
    ·refine aH rfl hc_26 wa (ak wa (ak wa (ak wa (ak wa (ak wa (ak wa (ak (wn rfl rfl) (ak (wn rfl rfl) (ak wa (ae (vB true) wa rfl (ae (vB true) wz rfl (ae (vI s_8.1) wz rfl (ae (vB true) wz rfl (aj ?_))))))))))))))
     obtain rfl:=ah h_22
     exact cu
    ·refine aH rfl hc_26 wa (ae (vL eS x_1) wa rfl (ae (vI s_8.1) wa rfl ?_))
     obtain ⟨y_27,hy_28,h_22⟩:=bind_some h_22
     refine dL nZ rfl rfl hy_28 rfl wa (bz sz9 ag9 rfl (vS y_27) rfl wa ?_)
     obtain ⟨r_29,hr_30,h_22⟩:=bind_some h_22
     refine aF (nV hr_30) rfl hb125 rfl rfl rfl rfl wa ?_
     rcases au h_22 with⟨hc_31,h_22⟩|⟨hc_31,h_22⟩
     ·refine aH rfl hc_31 wa (ae (vS target_2) wa rfl ?_)
      obtain ⟨r_32,hr_33,h_22⟩:=bind_some h_22
      refine aF (nV hr_33) rfl hb125 rfl rfl rfl rfl wa (ae (vB r_32) wa rfl (ae (vB r_32) wa rfl (ae (vB r_32) wz rfl (ae (vI s_8.1) wz rfl (ae (vB r_32) wz rfl (aj ?_))))))
      obtain rfl:=ah h_22
      exact cu
     ·refine aH rfl hc_31 wa (ak wa (ak wa (ae (vB false) wa rfl (ae (vB false) wa rfl (ae (vB false) wz rfl (ae (vI s_8.1) wz rfl (ae (vB false) wz rfl (aj ?_))))))))
      obtain rfl:=ah h_22
      exact cu
   ·refine aH rfl hc_23 wz (ak wa (ak wa (ak wa (ak wa (ak wa (ak wa (ak wa (ak (wn rfl rfl) (ak (wn rfl rfl) (ak (wn rfl rfl) (ak (wn rfl rfl) (ak (wn rfl rfl) (ak (wn rfl rfl) (ak (wn rfl rfl) (ak (wn rfl rfl) (ak (wn rfl rfl) (ak wa (ae (vB false) wz rfl (ae (vI s_8.1) wz rfl (ae (vB false) wz rfl (aj ?_)))))))))))))))))))))
    obtain rfl:=ah h_22
    exact cu
  ·rintro ⟨⟩ _ sl_ H_ hp_ hq_
   refine aN _ hp_ hq_ ?_
   obtain rfl:=ah hF
   exact aC (bv (.inr rfl) [(vI s_8.1),(vB v_21)] ⟨rfl,⟨rfl,trivial⟩⟩ rfl rfl rfl)
theorem tK {e_1:Entry} {p_2:Player} {r:Bool} (hF:mK e_1 p_2=some r) :
  FnM Tryz.prog 74 [(.d (.agg (Entry.enc e_1))),(.d (.agg (Player.enc p_2)))] [] (vB r) []:=by
 refine FnM.of_wH ⟨Tryz.prog,26,[],[]⟩ rfl Tryz.func74 rfl rfl (lb_ rfl) (by kernel_rfl) ?_
 unfold mK at hF
 refine af (aa (dZ 0 (.inl rfl) [(vS e_1.Key),(vS e_1.Item),(vI e_1.Version),(vI e_1.First),(vI e_1.Last),(vI e_1.Every),(vI e_1.Days),(vL eI e_1.Except),(vI e_1.From),(vI e_1.To),(vI e_1.Prio),(vL eS e_1.Tags),(vB e_1.Gone)] rfl rfl wz (λn_3=>dZ 0 (.inl rfl) [(vS p_2.Key),(vS p_2.Screen),(vI p_2.Zone),(vL eS p_2.Tags)] rfl rfl wz (λn_4=>ae (vB false) wz rfl (aj (af (af (aa (aJ ug rfl 11 rfl wz (ay 0 0 il ft yT Bb rfl rfl (vL eS e_1.Tags) rfl wz (bX Br rfl wz (ae (vI 0) wz rfl (aj ?_)))))))))))))
 obtain ⟨o_13,hj_14,hF⟩:=bind_some hF
 obtain ⟨hn_9,hj_14⟩:=bn hj_14
 refine aG (β:=(Unit)) (λ(s_10:Unit)=>([]:SL_)) (λ(s_10:Unit)=>([(n_3,some (.cells 13 [(vS e_1.Key),(vS e_1.Item),(vI e_1.Version),(vI e_1.First),(vI e_1.Last),(vI e_1.Every),(vI e_1.Days),(vL eI e_1.Except),(vI e_1.From),(vI e_1.To),(vI e_1.Prio),(vL eS e_1.Tags),(vB e_1.Gone)])),(n_4,some (.cells 4 [(vS p_2.Key),(vS p_2.Screen),(vI p_2.Zone),(vL eS p_2.Tags)]))]:Hp)) (λp=>o_13 = .go p) ?_ ?_
 ·refine aD (aX (β:=Nat×(List ByteArray)×(Unit)) (λp=>(λ(k_5:Nat) (l_6:List ByteArray) (s_10:Unit)=>([(3,(.ref n_4 0 0)),(10,(vL eS e_1.Tags)),(11,(vI (e_1.Tags.length:Int))),(12,(vI (k_5:Int)))]:SL_)) p.1 p.2.1 p.2.2) (λp=>(λ(k_5:Nat) (l_6:List ByteArray) (s_10:Unit)=>([(n_3,some (.cells 13 [(vS e_1.Key),(vS e_1.Item),(vI e_1.Version),(vI e_1.First),(vI e_1.Last),(vI e_1.Every),(vI e_1.Days),(vL eI e_1.Except),(vI e_1.From),(vI e_1.To),(vI e_1.Prio),(vL eS e_1.Tags),(vB e_1.Gone)])),(n_4,some (.cells 4 [(vS p_2.Key),(vS p_2.Screen),(vI p_2.Zone),(vL eS p_2.Tags)]))]:Hp)) p.1 p.2.1 p.2.2) (λp=>dG (λk x s=>jq p_2 k x s) p.2.1 p.1 p.2.2=some o_13/\(e_1.Tags).drop p.1=p.2.1) (λp=>p.2.1.length) (0,e_1.Tags,()) ⟨hj_14,rfl⟩ rfl (aK rfl) ?_)
  rintro ⟨k_5,l_6,s_10⟩ ⟨hL_12,hD_8⟩
  dsimp only at hL_12 hD_8
  cases l_6 with
  | nil =>
   obtain rfl:=ah hL_12
   refine af (aa (ae (vB (decide ((k_5:Int)<(e_1.Tags.length:Int)))) wz rfl (aj ?_)))
   refine af (aA rfl (drop_nil hD_8) (aS ?_))
   exact aU (s_10) rfl rfl (aK rfl)
  | cons x_7 l_6 =>
   obtain ⟨c_,hc_11,hL_12⟩:=bind_some hL_12
   refine af (aa (ae (vB (decide ((k_5:Int)<(e_1.Tags.length:Int)))) wz rfl (aj ?_)))
   refine af (aB rfl (bE hD_8) (ax ?_))
   unfold jq at hc_11
   refine af (aD (af (aa (dL nZ rfl rfl (bL hD_8) rfl wz (bz sz9 ag9 rfl (vS x_7) rfl wz (ae (vS x_7) wz rfl (aj (af (aa (aJ FY rfl 3 rfl wz (ay 0 1 il ft yT Bb rfl rfl (vL eS p_2.Tags) rfl wz (ae (vS x_7) wz rfl ?_))))))))))))
   obtain ⟨r_15,hr_16,hc_11⟩:=bind_some hc_11
   refine aF (mh hr_16) rfl hb101 rfl rfl rfl rfl wz (ae (.tup [(vI r_15.1),(vB r_15.2)]) wz rfl (ae (vI r_15.1) wz rfl (ae (vB r_15.2) wz rfl (ae (vI r_15.1) wz rfl (ae (vB r_15.2) wz rfl (aj (af (aa (ae (vB r_15.2) wz rfl (ae (vB (!r_15.2)) wz rfl (aj ?_)))))))))))
   rcases au hc_11 with⟨hc_17,hc_11⟩|⟨hc_17,hc_11⟩
   ·refine aB rfl hc_17 (af (aa (ae (vB false) wz rfl (aj ?_))))
    obtain rfl:=ah hc_11
    obtain rfl:=ah hL_12
    obtain rfl:=ah hF
    exact aC (bv (.inr rfl) [(vB false)] ⟨rfl,trivial⟩ rfl rfl rfl)
   ·refine aA rfl hc_17 (ax (aa (gm (bH hD_8 hn_9) wz rfl (ae (vI ((k_5+1:Nat):Int)) wz rfl (aj ?_)))))
    obtain rfl:=ah hc_11
    exact aO (k_5+1,l_6,()) ⟨hL_12,aP hD_8⟩ (ls_ _) rfl (aK rfl)
 ·rintro s_10 ho_ sl_ H_ hp_ hq_
  subst ho_
  refine aN _ hp_ hq_ (af (aa (ae (vB true) wz rfl (aj ?_))))
  obtain rfl:=ah hF
  exact aC (bv (.inr rfl) [(vB true)] ⟨rfl,trivial⟩ rfl rfl rfl)
section
variable [dM:DM]
theorem lY {x_1:Int} {r:Bool} (hF:cmp_isNaN_int x_1=some r) :
  FnM Tryz.prog 76 [(vI x_1)] [] (vB r) []:=by
 refine FnM.of_wH ⟨Tryz.prog,6,[],[]⟩ rfl Tryz.func76 rfl rfl (lb_ rfl) (by kernel_rfl) ?_
 unfold cmp_isNaN_int at hF
 refine af (aa (ae (vB false) wz rfl (aj (af (aa (ae (vI x_1) wz rfl (ae (vI x_1) wz rfl (ae (vB (x_1 != x_1)) wz rfl (ae (vB (x_1 != x_1)) wz rfl (aj ?_))))))))))
 obtain rfl:=ah hF
 exact aC (bv (.inr rfl) [(vB (x_1 != x_1))] ⟨rfl,trivial⟩ rfl rfl rfl)
end
theorem A8 {x_1:Int} {y_2:Int} {r:Bool} (hF:cmp_Less_int x_1 y_2=some r) :
  FnM Tryz.prog 88 [(vI x_1),(vI y_2)] [] (vB r) []:=by
 refine FnM.of_wH ⟨Tryz.prog,17,[],[]⟩ rfl Tryz.func88 rfl rfl (lb_ rfl) (by kernel_rfl) ?_
 unfold cmp_Less_int at hF
 refine af (aa (ae (vB false) wz rfl (aj (af ?_))))
 obtain ⟨v_3,h_4,hF⟩:=bind_some hF
 refine aG (β:=Unit) (λ_=>([(4,(vB v_3))]:SL_)) (λ_=>([]:Hp)) (λ_=>True) ?_ ?_
 ·refine aa (ae (vI x_1) wz rfl ?_)
  obtain ⟨r_5,hr_6,h_4⟩:=bind_some h_4
  refine aF (lY hr_6) rfl hb76 rfl rfl rfl rfl wz ?_
  rcases au h_4 with⟨hc_7,h_4⟩|⟨hc_7,h_4⟩
  ·refine aH rfl hc_7 wz (ae (vI y_2) wa rfl ?_)
   obtain ⟨r_8,hr_9,h_4⟩:=bind_some h_4
   refine aF (lY hr_9) rfl hb76 rfl rfl rfl rfl wa (ae (vB (!r_8)) wa rfl (ae (vB (!r_8)) wz rfl ?_))
   rcases au h_4 with⟨hc_10,h_4⟩|⟨hc_10,h_4⟩
   ·refine aH rfl hc_10 wz (ak wa (ak wa (ak wa (ae (vB true) wz rfl (ae (vB true) wz rfl (aj ?_))))))
    obtain rfl:=ah h_4
    exact cu
   ·refine aH rfl hc_10 wz (ae (vI x_1) wa rfl (ae (vI y_2) wa rfl (ae (vB (decide (x_1<y_2))) wa rfl (ae (vB (decide (x_1<y_2))) wz rfl (ae (vB (decide (x_1<y_2))) wz rfl (aj ?_))))))
    obtain rfl:=ah h_4
    exact cu
  ·refine aH rfl hc_7 wz (ak wa (ak wa (ak wa (ae (vB false) wz rfl (ae (vB false) wz rfl (ae (vI x_1) wa rfl (ae (vI y_2) wa rfl (ae (vB (decide (x_1<y_2))) wa rfl (ae (vB (decide (x_1<y_2))) wz rfl (ae (vB (decide (x_1<y_2))) wz rfl (aj ?_)))))))))))
   obtain rfl:=ah h_4
   exact cu
 ·rintro ⟨⟩ _ sl_ H_ hp_ hq_
  refine aN _ hp_ hq_ ?_
  obtain rfl:=ah hF
  exact aC (bv (.inr rfl) [(vB v_3)] ⟨rfl,trivial⟩ rfl rfl rfl)
theorem pO {x_1:Int} {r:Bool} (hF:jr x_1=some r) :
  FnM Tryz.prog 111 [(vI x_1)] [] (vB r) []:=by
 refine FnM.of_wH ⟨Tryz.prog,6,[],[]⟩ rfl Tryz.func111 rfl rfl (lb_ rfl) (by kernel_rfl) ?_
 unfold jr at hF
 refine af (aa (ae (vB false) wz rfl (aj (af (aa (ae (vI x_1) wz rfl (ae (vI x_1) wz rfl (ae (vB (x_1 != x_1)) wz rfl (ae (vB (x_1 != x_1)) wz rfl (aj ?_))))))))))
 obtain rfl:=ah hF
 exact aC (bv (.inr rfl) [(vB (x_1 != x_1))] ⟨rfl,trivial⟩ rfl rfl rfl)
theorem oL {x_1:(List Int)} {target_2:Int} {r:Int×Bool} (hF:fq x_1 target_2=some r) :
  FnM Tryz.prog 80 [(vL eI x_1),(vI target_2)] [] (.tup [(vI r.1),(vB r.2)]) []:=by
 refine FnM.of_wH ⟨Tryz.prog,54,[],[]⟩ rfl Tryz.func80 rfl rfl (lb_ rfl) (by kernel_rfl) ?_
 unfold fq at hF
 refine af (aa (ae (vI 0) wz rfl (ae (vB false) wz rfl (aj (af (aa (ae (vL eI x_1) wz rfl (bX nL rfl wz (ae (vI (x_1.length:Int)) wz rfl (aj (af (aa (ae (vI (x_1.length:Int)) wz rfl (ae (vI 0) wz rfl (ae (vI (x_1.length:Int)) wz rfl (aj (af ?_)))))))))))))))))
 obtain ⟨o_11,hj_12,hF⟩:=bind_some hF
 obtain ⟨nq_34,hj_12⟩:=ek hj_12
 refine aG (β:=(Int×Int)) (λ(s_8:Int×Int)=>([(0,(vL eI x_1)),(1,(vI target_2)),(6,(vI (x_1.length:Int))),(7,(vI s_8.1))]:SL_)) (λ(s_8:Int×Int)=>([]:Hp)) (λp=>o_11 = .go p) ?_ ?_
 ·refine aD (aX (β:=Nat×(Int×Int)) (λp=>(λ(k_3:Nat) (s_8:Int×Int)=>([(0,(vL eI x_1)),(1,(vI target_2)),(6,(vI (x_1.length:Int))),(7,(vI s_8.1)),(8,(vI s_8.2))]:SL_)) p.1 p.2) (λp=>(λ(k_3:Nat) (s_8:Int×Int)=>([]:Hp)) p.1 p.2) (λp=>cO (λs=>bA x_1 target_2 s) p.1 p.2=some o_11) (λp=>p.1) (nq_34,(0,(x_1.length:Int))) hj_12 rfl (aK rfl) ?_)
  rintro ⟨k_3,s_8⟩ hL_10
  dsimp only at hL_10
  cases k_3 with
  | zero=>cases hL_10
  | succ k_3 =>
   obtain ⟨c_,hc_9,hL_10⟩:=bind_some hL_10
   unfold bA at hc_9
   refine af (af (aa (ae (vI s_8.1) wz rfl (ae (vI s_8.2) wz rfl (ae (vB (decide (s_8.1<s_8.2))) wz rfl (aj ?_))))))
   rcases au hc_9 with⟨hc_13,hc_9⟩|⟨hc_13,hc_9⟩
   ·refine aB rfl hc_13 (ax (aD (af (aa (ae (vI s_8.1) wz rfl (ae (vI s_8.2) wz rfl (ae (vI (w64 (s_8.1+s_8.2))) wz rfl (xY un3 GI rfl wz ?_))))))))
    obtain ⟨q_14,hz_15,hc_9⟩:=bind_some hc_9
    refine Ep rfl rfl hz_15 wz (xY GI un3 rfl wz (ae (vI (w64 q_14)) wz rfl (aj (af (aa (ae (vL eI x_1) wz rfl (ae (vI (w64 q_14)) wz rfl ?_)))))))
    obtain ⟨y_16,hy_17,hc_9⟩:=bind_some hc_9
    refine dL iE rfl rfl hy_17 rfl wz (bz sz3 ag3 rfl (vI y_16) rfl wz (ae (vI target_2) wz rfl ?_))
    obtain ⟨r_18,hr_19,hc_9⟩:=bind_some hc_9
    refine aF (A8 hr_19) rfl hb88 rfl rfl rfl rfl wz (aj ?_)
    rcases au hc_9 with⟨hc_20,hc_9⟩|⟨hc_20,hc_9⟩
    ·refine aB rfl hc_20 (aa (ae (vI (w64 q_14)) wz rfl (ae (vI (w64 ((w64 q_14)+1))) wz rfl (ae (vI (w64 ((w64 q_14)+1))) wz rfl (aj ?_)))))
     obtain rfl:=ah hc_9
     exact aO (k_3,((w64 ((w64 q_14)+1)),s_8.2)) hL_10 (ls_ _) rfl (aK rfl)
    ·refine aA rfl hc_20 (aa (ae (vI (w64 q_14)) wz rfl (ae (vI (w64 q_14)) wz rfl (aj ?_))))
     obtain rfl:=ah hc_9
     exact aO (k_3,(s_8.1,(w64 q_14))) hL_10 (ls_ _) rfl (aK rfl)
   ·refine aA rfl hc_13 (aS ?_)
    obtain rfl:=ah hc_9
    obtain rfl:=ah hL_10
    exact aU ((s_8.1,s_8.2)) rfl rfl (aK rfl)
 ·rintro s_8 ho_ sl_ H_ hp_ hq_
  subst ho_
  refine aN _ hp_ hq_ (af ?_)
  obtain ⟨v_21,h_22,hF⟩:=bind_some hF
  refine aG (β:=Unit) (λ_=>([(4,(vI s_8.1)),(5,(vB v_21))]:SL_)) (λ_=>([]:Hp)) (λ_=>True) ?_ ?_
  ·refine aa (ae (vI s_8.1) wz rfl (ae (vI s_8.1) wz rfl (ae (vI (x_1.length:Int)) wz rfl (ae (vB (decide (s_8.1<(x_1.length:Int)))) wz rfl ?_))))
   rcases au h_22 with⟨hc_23,h_22⟩|⟨hc_23,h_22⟩
   ·refine aH rfl hc_23 wz (ae (vL eI x_1) wa rfl (ae (vI s_8.1) wa rfl ?_))
    obtain ⟨y_24,hy_25,h_22⟩:=bind_some h_22
    refine dL iE rfl rfl hy_25 rfl wa (bz sz3 ag3 rfl (vI y_24) rfl wa (ae (vI target_2) wa rfl (ae (vB (y_24==target_2)) wa rfl ?_)))
    rcases au h_22 with⟨hc_26,h_22⟩|⟨hc_26,h_22⟩
    ·refine aH rfl hc_26 wa (ak wa (ak wa (ak wa (ak wa (ak wa (ak wa (ak (wn rfl rfl) (ak (wn rfl rfl) (ak wa (ae (vB true) wa rfl (ae (vB true) wz rfl (ae (vI s_8.1) wz rfl (ae (vB true) wz rfl (aj ?_))))))))))))))
     obtain rfl:=ah h_22
     exact cu
    ·refine aH rfl hc_26 wa (ae (vL eI x_1) wa rfl (ae (vI s_8.1) wa rfl ?_))
     obtain ⟨y_27,hy_28,h_22⟩:=bind_some h_22
     refine dL iE rfl rfl hy_28 rfl wa (bz sz3 ag3 rfl (vI y_27) rfl wa ?_)
     obtain ⟨r_29,hr_30,h_22⟩:=bind_some h_22
     refine aF (pO hr_30) rfl hb111 rfl rfl rfl rfl wa ?_
     rcases au h_22 with⟨hc_31,h_22⟩|⟨hc_31,h_22⟩
     ·refine aH rfl hc_31 wa (ae (vI target_2) wa rfl ?_)
      obtain ⟨r_32,hr_33,h_22⟩:=bind_some h_22
      refine aF (pO hr_33) rfl hb111 rfl rfl rfl rfl wa (ae (vB r_32) wa rfl (ae (vB r_32) wa rfl (ae (vB r_32) wz rfl (ae (vI s_8.1) wz rfl (ae (vB r_32) wz rfl (aj ?_))))))
      obtain rfl:=ah h_22
      exact cu
     ·refine aH rfl hc_31 wa (ak wa (ak wa (ae (vB false) wa rfl (ae (vB false) wa rfl (ae (vB false) wz rfl (ae (vI s_8.1) wz rfl (ae (vB false) wz rfl (aj ?_))))))))
      obtain rfl:=ah h_22
      exact cu
   ·refine aH rfl hc_23 wz (ak wa (ak wa (ak wa (ak wa (ak wa (ak wa (ak wa (ak (wn rfl rfl) (ak (wn rfl rfl) (ak (wn rfl rfl) (ak (wn rfl rfl) (ak (wn rfl rfl) (ak (wn rfl rfl) (ak (wn rfl rfl) (ak (wn rfl rfl) (ak (wn rfl rfl) (ak wa (ae (vB false) wz rfl (ae (vI s_8.1) wz rfl (ae (vB false) wz rfl (aj ?_)))))))))))))))))))))
    obtain rfl:=ah h_22
    exact cu
  ·rintro ⟨⟩ _ sl_ H_ hp_ hq_
   refine aN _ hp_ hq_ ?_
   obtain rfl:=ah hF
   exact aC (bv (.inr rfl) [(vI s_8.1),(vB v_21)] ⟨rfl,⟨rfl,trivial⟩⟩ rfl rfl rfl)
end Go.Proofs.YtnjnggakgeommaaGreat.Law

