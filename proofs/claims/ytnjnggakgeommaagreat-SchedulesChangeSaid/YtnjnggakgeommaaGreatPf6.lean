/-
 The machine computes these plain functions (written by a program of ours).
-/
import Derived.Test.YtnjnggakgeommaaGreatFacts
import Derived.Test.YtnjnggakgeommaaGreatDefs
import Derived.Test.YtnjnggakgeommaaGreatPf5
open Go Go.Eng Go.Proofs
namespace Go.Proofs.YtnjnggakgeommaaGreat.Law
set_option maxRecDepth 100000
set_option linter.unusedVariables false
set_option maxHeartbeats 1000000
theorem Dm {e_1:Entry} {p_2:Player} {r:Bool} (hF:q9 e_1 p_2=some r) :
  FnM Tryz.prog 94 [(.d (.agg (Entry.enc e_1))),(.d (.agg (Player.enc p_2)))] [] (vB r) []:=by
 refine FnM.of_wH ⟨Tryz.prog,10,[],[]⟩ rfl Tryz.func94 rfl rfl (lb_ rfl) (by kernel_rfl) ?_
 unfold q9 at hF
 refine af (aa (dZ 0 (.inl rfl) [(vS e_1.Key),(vS e_1.Item),(vI e_1.Version),(vI e_1.First),(vI e_1.Last),(vI e_1.Every),(vI e_1.Days),(vL eI e_1.Except),(vI e_1.From),(vI e_1.To),(vI e_1.Prio),(vL eS e_1.Tags),(vB e_1.Gone)] rfl rfl wz (λn_3=>dZ 0 (.inl rfl) [(vS p_2.Key),(vS p_2.Screen),(vI p_2.Zone),(vL eS p_2.Tags)] rfl rfl wz (λn_4=>ae (vB false) wz rfl (aj (af (aa (aJ ug rfl 11 rfl wz (ay 0 0 il ft yT Bb rfl rfl (vL eS e_1.Tags) rfl wz (ae (.fn 120 [(.ref n_4 0 0)]) wz rfl ?_))))))))))
 obtain ⟨r_5,hr_6,hF⟩:=bind_some hF
 refine aW 0 [1] il ft (mg (gid:=120) (caps:=[.ref (av 0) 0 0]) (Sin:=[(.cells 4 [(vS p_2.Key),(vS p_2.Screen),(vI p_2.Zone),(vL eS p_2.Tags)])]) (λ_ _ h_=>Bd h_) hb120 ⟨rfl,rfl⟩ (by kernel_rfl) (Mg (by kernel_rfl)) (JW (by kernel_rfl)) hr_6) rfl hb119 rfl (by kernel_rfl) (by kernel_rfl) (by kernel_rfl) (by kernel_rfl) (by kernel_rfl) (by kernel_rfl) (by kernel_rfl) (by decide) (by kernel_rfl) wz (vB r_5) (by kernel_rfl) ([(n_3,some (.cells 13 [(vS e_1.Key),(vS e_1.Item),(vI e_1.Version),(vI e_1.First),(vI e_1.Last),(vI e_1.Every),(vI e_1.Days),(vL eI e_1.Except),(vI e_1.From),(vI e_1.To),(vI e_1.Prio),(vL eS e_1.Tags),(vB e_1.Gone)])),(n_4,some (.cells 4 [(vS p_2.Key),(vS p_2.Screen),(vI p_2.Zone),(vL eS p_2.Tags)]))]:Hp) (by kernel_rfl) (ae (vB (!r_5)) wz rfl (ae (vB (!r_5)) wz rfl (aj ?_)))
 obtain rfl:=ah hF
 exact aC (bv (.inr rfl) [(vB (!r_5))] ⟨rfl,trivial⟩ rfl rfl rfl)
theorem rq {s1_1:(List Int)} {s2_2:(List Int)} {r:Int} (hF:gN s1_1 s2_2=some r) :
  FnM Tryz.prog 97 [(vL eI s1_1),(vL eI s2_2)] [] (vI r) []:=by
 refine FnM.of_wH ⟨Tryz.prog,36,[],[]⟩ rfl Tryz.func97 rfl rfl (lb_ rfl) (by kernel_rfl) ?_
 unfold gN at hF
 refine af (aa (ae (vI 0) wz rfl (aj (af (af (aa (ae (vL eI s1_1) wz rfl (bX nL rfl wz (ae (vI 0) wz rfl (aj ?_))))))))))
 obtain ⟨o_11,hj_12,hF⟩:=bind_some hF
 obtain ⟨hn_7,hj_12⟩:=bn hj_12
 refine aG (β:=(Unit)) (λ(s_8:Unit)=>([(0,(vL eI s1_1)),(1,(vL eI s2_2))]:SL_)) (λ(s_8:Unit)=>([]:Hp)) (λp=>o_11 = .go p) ?_ ?_
 ·refine aD (aX (β:=Nat×(List Int)×(Unit)) (λp=>(λ(k_3:Nat) (l_4:List Int) (s_8:Unit)=>([(0,(vL eI s1_1)),(1,(vL eI s2_2)),(9,(vL eI s1_1)),(10,(vI (s1_1.length:Int))),(11,(vI (k_3:Int)))]:SL_)) p.1 p.2.1 p.2.2) (λp=>(λ(k_3:Nat) (l_4:List Int) (s_8:Unit)=>([]:Hp)) p.1 p.2.1 p.2.2) (λp=>dG (λk x s=>dK s2_2 k x s) p.2.1 p.1 p.2.2=some o_11/\(s1_1).drop p.1=p.2.1) (λp=>p.2.1.length) (0,s1_1,()) ⟨hj_12,rfl⟩ rfl (aK rfl) ?_)
  rintro ⟨k_3,l_4,s_8⟩ ⟨hL_10,hD_6⟩
  dsimp only at hL_10 hD_6
  cases l_4 with
  | nil =>
   obtain rfl:=ah hL_10
   refine af (aa (ae (vB (decide ((k_3:Int)<(s1_1.length:Int)))) wz rfl (aj ?_)))
   refine af (aA rfl (drop_nil hD_6) (aS ?_))
   exact aU (s_8) rfl rfl (aK rfl)
  | cons x_5 l_4 =>
   obtain ⟨c_,hc_9,hL_10⟩:=bind_some hL_10
   refine af (aa (ae (vB (decide ((k_3:Int)<(s1_1.length:Int)))) wz rfl (aj ?_)))
   refine af (aB rfl (bE hD_6) (ax ?_))
   unfold dK at hc_9
   refine af (aD (af (aa (ae (vI (k_3:Int)) wz rfl (dL iE rfl rfl (bL hD_6) rfl wz (bz sz3 ag3 rfl (vI x_5) rfl wz (ae (vI (k_3:Int)) wz rfl (ae (vI x_5) wz rfl (aj (af (af (aa (ae (vI (k_3:Int)) wz rfl (ae (vL eI s2_2) wz rfl (bX nL rfl wz (ae (vB (decide ((k_3:Int)>=(s2_2.length:Int)))) wz rfl (aj ?_)))))))))))))))))
   rcases au hc_9 with⟨hc_13,hc_9⟩|⟨hc_13,hc_9⟩
   ·refine aB rfl hc_13 (af (aa (ae (vI 1) wz rfl (aj ?_))))
    obtain rfl:=ah hc_9
    obtain rfl:=ah hL_10
    obtain rfl:=ah hF
    exact aC (bv (.inr rfl) [(vI 1)] ⟨rfl,trivial⟩ rfl rfl rfl)
   ·refine aA rfl hc_13 (ax (af (aa (ae (vL eI s2_2) wz rfl (ae (vI (k_3:Int)) wz rfl ?_)))))
    obtain ⟨y_14,hy_15,hc_9⟩:=bind_some hc_9
    refine dL iE rfl rfl hy_15 rfl wz (bz sz3 ag3 rfl (vI y_14) rfl wz (ae (vI y_14) wz rfl (aj (af (aa (ae (vI x_5) wz rfl (ae (vI y_14) wz rfl ?_)))))))
    obtain ⟨r_16,hr_17,hc_9⟩:=bind_some hc_9
    refine aF (kG hr_17) rfl hb54 rfl rfl rfl rfl wz (ae (vI r_16) wz rfl (aj (af (aa (ae (vI r_16) wz rfl (ae (vB (r_16 != 0)) wz rfl (aj ?_)))))))
    rcases au hc_9 with⟨hc_18,hc_9⟩|⟨hc_18,hc_9⟩
    ·refine aB rfl hc_18 (af (aa (ae (vI r_16) wz rfl (ae (vI r_16) wz rfl (aj ?_)))))
     obtain rfl:=ah hc_9
     obtain rfl:=ah hL_10
     obtain rfl:=ah hF
     exact aC (bv (.inr rfl) [(vI r_16)] ⟨rfl,trivial⟩ rfl rfl rfl)
    ·refine aA rfl hc_18 (ax (aa (gm (bH hD_6 hn_7) wz rfl (ae (vI ((k_3+1:Nat):Int)) wz rfl (aj ?_)))))
     obtain rfl:=ah hc_9
     exact aO (k_3+1,l_4,()) ⟨hL_10,aP hD_6⟩ (ls_ _) rfl (aK rfl)
 ·rintro s_8 ho_ sl_ H_ hp_ hq_
  subst ho_
  refine aN _ hp_ hq_ (af (af (aa (ae (vL eI s1_1) wz rfl (bX nL rfl wz (ae (vL eI s2_2) wz rfl (bX nL rfl wz (ae (vB (decide ((s1_1.length:Int)<(s2_2.length:Int)))) wz rfl (aj ?_)))))))))
  rcases au hF with⟨hc_19,hF⟩|⟨hc_19,hF⟩
  ·refine aB rfl hc_19 (af (aa (ae (vI (-1)) wz rfl (aj ?_))))
   obtain rfl:=ah hF
   exact aC (bv (.inr rfl) [(vI (-1))] ⟨rfl,trivial⟩ rfl rfl rfl)
  ·refine aA rfl hc_19 (ax (af (aa (ae (vI 0) wz rfl (aj ?_)))))
   obtain rfl:=ah hF
   exact aC (bv (.inr rfl) [(vI 0)] ⟨rfl,trivial⟩ rfl rfl rfl)
theorem Cm {a_1:Entry} {b_2:Entry} {p_3:Player} {p_4:Int} {r:Int} (hF:nz a_1 b_2 p_3 p_4=some r) :
  FnM Tryz.prog 96 [(.d (.agg (Entry.enc a_1))),(.d (.agg (Entry.enc b_2))),(.ref (av 0) 0 0),(.ref (av 1) 0 0)] [(.cells 4 [(vS p_3.Key),(vS p_3.Screen),(vI p_3.Zone),(vL eS p_3.Tags)]),(.cells 1 [(vI p_4)])] (vI r) [some (.cells 4 [(vS p_3.Key),(vS p_3.Screen),(vI p_3.Zone),(vL eS p_3.Tags)]),some (.cells 1 [(vI p_4)])]:=by
 refine FnM.of_wH ⟨Tryz.prog,45,[],[]⟩ rfl Tryz.func96 rfl rfl (lb_ rfl) (by kernel_rfl) ?_
 unfold nz at hF
 refine af (aa (dZ 0 (.inl rfl) [(vS a_1.Key),(vS a_1.Item),(vI a_1.Version),(vI a_1.First),(vI a_1.Last),(vI a_1.Every),(vI a_1.Days),(vL eI a_1.Except),(vI a_1.From),(vI a_1.To),(vI a_1.Prio),(vL eS a_1.Tags),(vB a_1.Gone)] rfl rfl wz (λn_5=>dZ 0 (.inl rfl) [(vS b_2.Key),(vS b_2.Item),(vI b_2.Version),(vI b_2.First),(vI b_2.Last),(vI b_2.Every),(vI b_2.Days),(vL eI b_2.Except),(vI b_2.From),(vI b_2.To),(vI b_2.Prio),(vL eS b_2.Tags),(vB b_2.Gone)] rfl rfl wz (λn_6=>ae (vI 0) wz rfl (aj (af (aa (ay 0 2 il ft gK jR rfl rfl (.d (.agg (Entry.enc a_1))) rfl wz (aJ uD rfl 2 rfl wz (ay 0 0 il ft sz3 ag3 rfl rfl (vI p_3.Zone) rfl wz (ay 0 1 il ft sz3 ag3 rfl rfl (vI p_4) rfl wz ?_)))))))))))
 obtain ⟨r_7,hr_8,hF⟩:=bind_some hF
 refine aF (uH hr_8) rfl hb93 rfl rfl rfl rfl wz (ae (.tup [(vI r_7.1),(vB r_7.2)]) wz rfl (ae (vI r_7.1) wz rfl (ae (vB r_7.2) wz rfl (ae (vI r_7.1) wz rfl (ae (vB r_7.2) wz rfl (aj (af (aa (ay 0 3 il ft gK jR rfl rfl (.d (.agg (Entry.enc b_2))) rfl wz (aJ uD rfl 2 rfl wz (ay 0 0 il ft sz3 ag3 rfl rfl (vI p_3.Zone) rfl wz (ay 0 1 il ft sz3 ag3 rfl rfl (vI p_4) rfl wz ?_))))))))))))
 obtain ⟨r_9,hr_10,hF⟩:=bind_some hF
 refine aF (uH hr_10) rfl hb93 rfl rfl rfl rfl wz (ae (.tup [(vI r_9.1),(vB r_9.2)]) wz rfl (ae (vI r_9.1) wz rfl (ae (vB r_9.2) wz rfl (ae (vI r_9.1) wz rfl (ae (vB r_9.2) wz rfl (aj (af (af (aa (aJ mQ rfl 10 rfl wz (ay 0 3 il ft sz3 ag3 rfl rfl (vI b_2.Prio) rfl wz (ae (vI r_9.1) wz rfl (dW (([b_2.Prio,r_9.1]:List Int).map eI) iE pW rfl rfl rfl rfl rfl wz (aJ mQ rfl 10 rfl wz (ay 0 2 il ft sz3 ag3 rfl rfl (vI a_1.Prio) rfl wz (ae (vI r_7.1) wz rfl (dW (([a_1.Prio,r_7.1]:List Int).map eI) iE pW rfl rfl rfl rfl rfl wz ?_)))))))))))))))))
 obtain ⟨r_11,hr_12,hF⟩:=bind_some hF
 refine aF (rq hr_12) rfl hb97 rfl rfl rfl rfl wz (ae (vI r_11) wz rfl (aj (aN (H0:=([((av 0),some (.cells 4 [(vS p_3.Key),(vS p_3.Screen),(vI p_3.Zone),(vL eS p_3.Tags)])),((av 1),some (.cells 1 [(vI p_4)])),(n_5,some (.cells 13 [(vS a_1.Key),(vS a_1.Item),(vI a_1.Version),(vI a_1.First),(vI a_1.Last),(vI a_1.Every),(vI a_1.Days),(vL eI a_1.Except),(vI a_1.From),(vI a_1.To),(vI a_1.Prio),(vL eS a_1.Tags),(vB a_1.Gone)])),(n_6,some (.cells 13 [(vS b_2.Key),(vS b_2.Item),(vI b_2.Version),(vI b_2.First),(vI b_2.Last),(vI b_2.Every),(vI b_2.Days),(vL eI b_2.Except),(vI b_2.From),(vI b_2.To),(vI b_2.Prio),(vL eS b_2.Tags),(vB b_2.Gone)]))]:Hp)) ([(4,(.ref n_5 0 0)),(5,(.ref n_6 0 0)),(11,(vI r_11))]:SL_) (by kernel_rfl) (xw (by kernel_rfl)) (af (aa (ae (vI r_11) wz rfl (ae (vB (r_11 != 0)) wz rfl (aj ?_))))))))
 rcases au hF with⟨hc_13,hF⟩|⟨hc_13,hF⟩
 ·refine aB rfl hc_13 (af (aa (ae (vI r_11) wz rfl (ae (vI r_11) wz rfl (aj ?_)))))
  obtain rfl:=ah hF
  exact aC (qK (.inr rfl) [(vI r_11)] _ [0,1] [av 0,av 1] ⟨rfl,trivial⟩ (.cons (iy rfl rfl) (.nil)) (by kernel_rfl) ⟨(by kernel_rfl),⟨(by kernel_rfl),trivial⟩⟩ (by decide) (by kernel_rfl))
 ·refine aA rfl hc_13 (ax (af (aa (aJ j5 rfl 0 rfl wz (ay 0 3 il ft sz9 ag9 rfl rfl (vS b_2.Key) rfl wz (aJ j5 rfl 0 rfl wz (ay 0 2 il ft sz9 ag9 rfl rfl (vS a_1.Key) rfl wz ?_)))))))
  obtain ⟨r_14,hr_15,hF⟩:=bind_some hF
  refine aF (qy hr_15) rfl hb79 rfl rfl rfl rfl wz (ae (vI r_14) wz rfl (aj ?_))
  obtain rfl:=ah hF
  exact aC (qK (.inr rfl) [(vI r_14)] _ [0,1] [av 0,av 1] ⟨rfl,trivial⟩ (.cons (iy rfl rfl) (.nil)) (by kernel_rfl) ⟨(by kernel_rfl),⟨(by kernel_rfl),trivial⟩⟩ (by decide) (by kernel_rfl))
theorem xP {x_1:Int} {r:Int} (hF:pE x_1=some r) :
  FnM Tryz.prog 92 [(.d (.int .u64 x_1))] [] (vI r) []:=by
 refine FnM.of_wH ⟨Tryz.prog,25,[],[]⟩ rfl Tryz.func92 rfl rfl (lb_ rfl) (by kernel_rfl) ?_
 unfold pE at hF
 refine af (aa (ae (vI 0) wz rfl (aj (af (af (aa (ae (.d (.int .u64 x_1)) wz rfl (ae (vB (decide (x_1>=4294967296))) wz rfl (aj ?_)))))))))
 obtain ⟨v_2,h_3,hF⟩:=bind_some hF
 refine aG (β:=Unit) (λ_=>([(0,(.d (.int .u64 v_2.1))),(2,(vI v_2.2))]:SL_)) (λ_=>([]:Hp)) (λ_=>True) ?_ ?_
 ·rcases au h_3 with⟨hc_4,h_3⟩|⟨hc_4,h_3⟩
  ·refine aB rfl hc_4 (af (aa (ae (.d (.int .u64 x_1)) wz rfl ?_)))
   obtain ⟨q_5,hz_6,h_3⟩:=bind_some h_3
   refine Ep rfl rfl hz_6 wz (ae (.d (.int .u64 q_5)) wz rfl (aj (aa (ae (vI 32) wz rfl (aj ?_)))))
   obtain rfl:=ah h_3
   exact cu
  ·refine aA rfl hc_4 (ax ?_)
   obtain rfl:=ah h_3
   exact cu
 ·rintro ⟨⟩ _ sl_ H_ hp_ hq_
  refine aN _ hp_ hq_ (af (af (aa (ae (.d (.int .u64 v_2.1)) wz rfl (ae (vB (decide (v_2.1>=65536))) wz rfl (aj ?_))))))
  obtain ⟨v_7,h_8,hF⟩:=bind_some hF
  refine aG (β:=Unit) (λ_=>([(0,(.d (.int .u64 v_7.1))),(2,(vI v_7.2))]:SL_)) (λ_=>([]:Hp)) (λ_=>True) ?_ ?_
  ·rcases au h_8 with⟨hc_9,h_8⟩|⟨hc_9,h_8⟩
   ·refine aB rfl hc_9 (af (aa (ae (.d (.int .u64 v_2.1)) wz rfl ?_)))
    obtain ⟨q_10,hz_11,h_8⟩:=bind_some h_8
    refine Ep rfl rfl hz_11 wz (ae (.d (.int .u64 q_10)) wz rfl (aj (aa (ae (vI v_2.2) wz rfl (ae (vI (w64 (v_2.2+16))) wz rfl (ae (vI (w64 (v_2.2+16))) wz rfl (aj ?_)))))))
    obtain rfl:=ah h_8
    exact cu
   ·refine aA rfl hc_9 (ax ?_)
    obtain rfl:=ah h_8
    exact cu
  ·rintro ⟨⟩ _ sl_ H_ hp_ hq_
   refine aN _ hp_ hq_ (af (af (aa (ae (.d (.int .u64 v_7.1)) wz rfl (ae (vB (decide (v_7.1>=256))) wz rfl (aj ?_))))))
   obtain ⟨v_12,h_13,hF⟩:=bind_some hF
   refine aG (β:=Unit) (λ_=>([(0,(.d (.int .u64 v_12.1))),(2,(vI v_12.2))]:SL_)) (λ_=>([]:Hp)) (λ_=>True) ?_ ?_
   ·rcases au h_13 with⟨hc_14,h_13⟩|⟨hc_14,h_13⟩
    ·refine aB rfl hc_14 (af (aa (ae (.d (.int .u64 v_7.1)) wz rfl ?_)))
     obtain ⟨q_15,hz_16,h_13⟩:=bind_some h_13
     refine Ep rfl rfl hz_16 wz (ae (.d (.int .u64 q_15)) wz rfl (aj (aa (ae (vI v_7.2) wz rfl (ae (vI (w64 (v_7.2+8))) wz rfl (ae (vI (w64 (v_7.2+8))) wz rfl (aj ?_)))))))
     obtain rfl:=ah h_13
     exact cu
    ·refine aA rfl hc_14 (ax ?_)
     obtain rfl:=ah h_13
     exact cu
   ·rintro ⟨⟩ _ sl_ H_ hp_ hq_
    refine aN _ hp_ hq_ (af (aa (ae (vI v_12.2) wz rfl (ae (.d (.int .u64 v_12.1)) wz rfl (xY un124 un5 rfl wz ?_)))))
    obtain ⟨b_17,hy_18,hF⟩:=bind_some hF
    refine I5 un9 rfl rfl hy_18 wz (xY un5 un3 rfl wz (ae (vI (w64 (v_12.2+(w64 (b_17.toNat:Int))))) wz rfl (ae (vI (w64 (v_12.2+(w64 (b_17.toNat:Int))))) wz rfl (aj ?_))))
    obtain rfl:=ah hF
    exact aC (bv (.inr rfl) [(vI (w64 (v_12.2+(w64 (b_17.toNat:Int)))))] ⟨rfl,trivial⟩ rfl rfl rfl)
theorem zM {x_1:Int} {r:Int} (hF:lh x_1=some r) :
  FnM Tryz.prog 67 [(.d (.int .u64 x_1))] [] (vI r) []:=by
 refine FnM.of_wH ⟨Tryz.prog,8,[],[]⟩ rfl Tryz.func67 rfl rfl (lb_ rfl) (by kernel_rfl) ?_
 unfold lh at hF
 refine af (aa (ae (vI 0) wz rfl (aj (af (aA rfl rfl (ax (af (aa (ae (.d (.int .u64 x_1)) wz rfl ?_)))))))))
 obtain ⟨r_2,hr_3,hF⟩:=bind_some hF
 refine aF (xP hr_3) rfl hb92 rfl rfl rfl rfl wz (ae (vI r_2) wz rfl (aj ?_))
 obtain rfl:=ah hF
 exact aC (bv (.inr rfl) [(vI r_2)] ⟨rfl,trivial⟩ rfl rfl rfl)
theorem kw {data_1:(List Entry)} {a_2:Int} {b_3:Int} {cmp4_5:Player} {cmp4_6:Int} {r:(List Entry)} (hF:fo data_1 a_2 b_3 cmp4_5 cmp4_6=some r) :
  FnM Tryz.prog 134 [(dV (av 2) 13 data_1),(vI a_2),(vI b_3),(.fn 96 [(.ref (av 0) 0 0),(.ref (av 1) 0 0)])] (([(.cells 4 [(vS cmp4_5.Key),(vS cmp4_5.Screen),(vI cmp4_5.Zone),(vL eS cmp4_5.Tags)]),(.cells 1 [(vI cmp4_6)])]:List Box)++gI 13 Entry.enc data_1) (.tup []) (([(.cells 4 [(vS cmp4_5.Key),(vS cmp4_5.Screen),(vI cmp4_5.Zone),(vL eS cmp4_5.Tags)]),(.cells 1 [(vI cmp4_6)])]:List Box).map some++gT data_1 (gB 13 Entry.enc r)):=by
 refine FnM.of_wHv ⟨Tryz.prog,53,[],[]⟩ rfl Tryz.func134 rfl rfl (lb_ rfl) (by kernel_rfl) ?_
 unfold fo at hF
 refine af (aa (ae (vI a_2) wz rfl (ae (vI (w64 (a_2+1))) wz rfl (ae (vI (w64 (a_2+1))) wz rfl (aj ?_)))))
 obtain ⟨o_15,hj_16,hF⟩:=bind_some hF
 obtain ⟨nq_54,hj_16⟩:=ek hj_16
 refine aG (β:=((List Entry)×Int)) (λ(s_12:(List Entry)×Int)=>([]:SL_)) (λ(s_12:(List Entry)×Int)=>([((av 0),some (.cells 4 [(vS cmp4_5.Key),(vS cmp4_5.Screen),(vI cmp4_5.Zone),(vL eS cmp4_5.Tags)])),((av 1),some (.cells 1 [(vI cmp4_6)])),((av 2),gB 13 Entry.enc s_12.1)]:Hp)) (λp=>o_15 = .go p) ?_ ?_
 ·refine aD (aX (β:=Nat×((List Entry)×Int)) (λp=>(λ(k_7:Nat) (s_12:(List Entry)×Int)=>([(0,(dV (av 2) 13 s_12.1)),(1,(vI a_2)),(2,(vI b_3)),(3,(.fn 96 [(.ref (av 0) 0 0),(.ref (av 1) 0 0)])),(8,(vI s_12.2))]:SL_)) p.1 p.2) (λp=>(λ(k_7:Nat) (s_12:(List Entry)×Int)=>([((av 0),some (.cells 4 [(vS cmp4_5.Key),(vS cmp4_5.Screen),(vI cmp4_5.Zone),(vL eS cmp4_5.Tags)])),((av 1),some (.cells 1 [(vI cmp4_6)])),((av 2),gB 13 Entry.enc s_12.1)]:Hp)) p.1 p.2) (λp=>cO (λs=>eG b_3 a_2 cmp4_5 cmp4_6 s) p.1 p.2=some o_15) (λp=>p.1) (nq_54,(data_1,(w64 (a_2+1)))) hj_16 rfl (aK rfl) ?_)
  rintro ⟨k_7,s_12⟩ hL_14
  dsimp only at hL_14
  cases k_7 with
  | zero=>cases hL_14
  | succ k_7 =>
   obtain ⟨c_,hc_13,hL_14⟩:=bind_some hL_14
   unfold eG at hc_13
   refine af (af (aa (ae (vI s_12.2) wz rfl (ae (vI b_3) wz rfl (ae (vB (decide (s_12.2<b_3))) wz rfl (aj ?_))))))
   rcases au hc_13 with⟨hc_17,hc_13⟩|⟨hc_17,hc_13⟩
   ·refine aB rfl hc_17 (ax (af (aD (af (aa (ae (vI s_12.2) wz rfl (ae (vI s_12.2) wz rfl (aj ?_))))))))
    obtain ⟨o_26,hj_27,hc_13⟩:=bind_some hc_13
    obtain ⟨nq_53,hj_27⟩:=ek hj_27
    refine aG (β:=((List Entry)×Int)) (λ(s_23:(List Entry)×Int)=>([(0,(dV (av 2) 13 s_23.1)),(1,(vI a_2)),(2,(vI b_3)),(3,(.fn 96 [(.ref (av 0) 0 0),(.ref (av 1) 0 0)])),(8,(vI s_12.2))]:SL_)) (λ(s_23:(List Entry)×Int)=>([((av 0),some (.cells 4 [(vS cmp4_5.Key),(vS cmp4_5.Screen),(vI cmp4_5.Zone),(vL eS cmp4_5.Tags)])),((av 1),some (.cells 1 [(vI cmp4_6)])),((av 2),gB 13 Entry.enc s_23.1)]:Hp)) (λp=>o_26 = .go p) ?_ ?_
    ·refine aD (aX (β:=Nat×((List Entry)×Int)) (λp=>(λ(k_18:Nat) (s_23:(List Entry)×Int)=>([(0,(dV (av 2) 13 s_23.1)),(1,(vI a_2)),(2,(vI b_3)),(3,(.fn 96 [(.ref (av 0) 0 0),(.ref (av 1) 0 0)])),(8,(vI s_12.2)),(9,(vI s_23.2))]:SL_)) p.1 p.2) (λp=>(λ(k_18:Nat) (s_23:(List Entry)×Int)=>([((av 0),some (.cells 4 [(vS cmp4_5.Key),(vS cmp4_5.Screen),(vI cmp4_5.Zone),(vL eS cmp4_5.Tags)])),((av 1),some (.cells 1 [(vI cmp4_6)])),((av 2),gB 13 Entry.enc s_23.1)]:Hp)) p.1 p.2) (λp=>cO (λs=>eF a_2 cmp4_5 cmp4_6 s) p.1 p.2=some o_26) (λp=>p.1) (nq_53,(s_12.1,s_12.2)) hj_27 rfl (aK rfl) ?_)
     rintro ⟨k_18,s_23⟩ hL_25
     dsimp only at hL_25
     cases k_18 with
     | zero=>cases hL_25
     | succ k_18 =>
      obtain ⟨c_,hc_24,hL_25⟩:=bind_some hL_25
      unfold eF at hc_24
      refine af (af ?_)
      obtain ⟨v_28,h_29,hc_24⟩:=bind_some hc_24
      refine aG (β:=Unit) (λ_=>([(0,(dV (av 2) 13 s_23.1)),(1,(vI a_2)),(2,(vI b_3)),(3,(.fn 96 [(.ref (av 0) 0 0),(.ref (av 1) 0 0)])),(8,(vI s_12.2)),(9,(vI s_23.2)),(34,(vB v_28))]:SL_)) (λ_=>([((av 0),some (.cells 4 [(vS cmp4_5.Key),(vS cmp4_5.Screen),(vI cmp4_5.Zone),(vL eS cmp4_5.Tags)])),((av 1),some (.cells 1 [(vI cmp4_6)])),((av 2),gB 13 Entry.enc s_23.1)]:Hp)) (λ_=>True) ?_ ?_
      ·refine bN (ae (vI s_23.2) wz rfl (ae (vI a_2) wz rfl (ae (vB (decide (s_23.2>a_2))) wz rfl ?_)))
       rcases au h_29 with⟨hc_30,h_29⟩|⟨hc_30,h_29⟩
       ·refine aH rfl hc_30 wz (ae (.fn 96 [(.ref (av 0) 0 0),(.ref (av 1) 0 0)]) wa rfl (ae (dV (av 2) 13 s_23.1) wa rfl (ae (vI s_23.2) wa rfl ?_)))
        obtain ⟨_,hi_31,h_29⟩:=bind_some h_29
        refine qj mE rfl rfl (jQ hi_31) (iq hi_31) wa ?_
        obtain ⟨e_32,hy_33,h_29⟩:=bind_some h_29
        refine lS 8 2 (.inr (by kernel_rfl)) (λ_ _ ag=>trivial) gK jR rfl rfl hy_33 (.d (.agg (Entry.enc e_32))) rfl wa (ae (dV (av 2) 13 s_23.1) wa rfl (ae (vI s_23.2) wa rfl (ae (vI (w64 (s_23.2-1))) wa rfl ?_)))
        obtain ⟨_,hi_34,h_29⟩:=bind_some h_29
        refine qj mE rfl rfl (jQ hi_34) (iq hi_34) wa ?_
        obtain ⟨e_35,hy_36,h_29⟩:=bind_some h_29
        refine lS 13 2 (.inr (by kernel_rfl)) (λ_ _ ag=>⟨.inl ⟨rfl,rfl⟩,trivial⟩) gK jR rfl rfl hy_36 (.d (.agg (Entry.enc e_35))) rfl wa ?_
        obtain ⟨r_37,hr_38,h_29⟩:=bind_some h_29
        refine h_callr 14 [0,1] (.inr (by kernel_rfl)) (λ_ _ ag=>by exact⟨.inl ⟨rfl,rfl⟩,⟨.inl ⟨rfl,rfl⟩,trivial⟩⟩) (Cm hr_38) rfl hb96 rfl (by kernel_rfl) (by kernel_rfl) (by kernel_rfl) (by kernel_rfl) (by kernel_rfl) (by kernel_rfl) (by decide) wa (vI r_37) (by kernel_rfl) (ae (vB (decide (r_37<0))) wa rfl (ae (vB (decide (r_37<0))) wz rfl (aj ?_)))
        obtain rfl:=ah h_29
        exact cu
       ·refine aH rfl hc_30 wz (ak wa (ak wa (ak wa (ak wa (ak wa (ak wa (ak wa (ak wa (ak wa (ak wa (ak wa (ak wa (ae (vB false) wz rfl (aj ?_))))))))))))))
        obtain rfl:=ah h_29
        exact cu
      ·rintro ⟨⟩ _ sl_ H_ hp_ hq_
       refine aN _ hp_ hq_ ?_
       rcases au hc_24 with⟨hc_40,hc_24⟩|⟨hc_40,hc_24⟩
       ·refine aB rfl hc_40 (ax (af (aD (bN (ae (dV (av 2) 13 s_23.1) wz rfl (ae (vI s_23.2) wz rfl (ae (dV (av 2) 13 s_23.1) wz rfl (ae (vI s_23.2) wz rfl (ae (vI (w64 (s_23.2-1))) wz rfl (ae (dV (av 2) 13 s_23.1) wz rfl (ae (vI s_23.2) wz rfl (ae (vI (w64 (s_23.2-1))) wz rfl ?_))))))))))))
        obtain ⟨_,hi_41,hc_24⟩:=bind_some hc_24
        refine qj mE rfl rfl (jQ hi_41) (iq hi_41) wz ?_
        obtain ⟨e_42,hy_43,hc_24⟩:=bind_some hc_24
        refine lS 9 2 (.inr (by kernel_rfl)) (λ_ _ ag=>trivial) gK jR rfl rfl hy_43 (.d (.agg (Entry.enc e_42))) rfl wz (ae (dV (av 2) 13 s_23.1) wz rfl (ae (vI s_23.2) wz rfl ?_))
        obtain ⟨_,hi_44,hc_24⟩:=bind_some hc_24
        refine qj mE rfl rfl (jQ hi_44) (iq hi_44) wz ?_
        obtain ⟨e_45,hy_46,hc_24⟩:=bind_some hc_24
        refine lS 13 2 (.inr (by kernel_rfl)) (λ_ _ ag=>⟨.inl ⟨rfl,rfl⟩,trivial⟩) gK jR rfl rfl hy_46 (.d (.agg (Entry.enc e_45))) rfl wz ?_
        obtain ⟨_,hi_47,hc_24⟩:=bind_some hc_24
        refine qj mE rfl rfl (jQ hi_47) (iq hi_47) wz ?_
        obtain ⟨e_48,hy_49,hc_24⟩:=bind_some hc_24
        refine kJ 15 (.inr (by kernel_rfl)) (λ_ _ ag=>⟨.inr (.inr (by kernel_rfl)),⟨.inr (.inr (by kernel_rfl)),trivial⟩⟩) 2 gK rfl rfl hy_49 e_42 rfl wz (bQ (v':=(dV (av 2) 13 (s_23.1.set (0+(s_23.2).toNat) e_42))) 0 rfl (mX (by simp)) (bQ (v':=(dV (av 2) 13 (s_23.1.set (0+(s_23.2).toNat) e_42))) 37 rfl (mX (by simp)) (bQ (v':=(dV (av 2) 13 (s_23.1.set (0+(s_23.2).toNat) e_42))) 39 rfl (mX (by simp)) (bQ (v':=(dV (av 2) 13 (s_23.1.set (0+(s_23.2).toNat) e_42))) 42 rfl (mX (by simp)) (bQ (v':=(dV (av 2) 13 (s_23.1.set (0+(s_23.2).toNat) e_42))) 47 rfl (mX (by simp)) ?_)))))
        obtain ⟨_,hi_50,hc_24⟩:=bind_some hc_24
        refine qj mE rfl rfl (jQ hi_50) (iq hi_50) wz ?_
        obtain ⟨e_51,hy_52,hc_24⟩:=bind_some hc_24
        refine kJ 17 (.inr (by kernel_rfl)) (λ_ _ ag=>⟨.inr (.inr (by kernel_rfl)),⟨.inr (.inr (by kernel_rfl)),⟨.inr (.inr (by kernel_rfl)),trivial⟩⟩⟩) 2 gK rfl rfl hy_52 e_45 rfl wz (bQ (v':=(dV (av 2) 13 ((s_23.1.set (0+(s_23.2).toNat) e_42).set (0+((w64 (s_23.2-1))).toNat) e_45))) 0 rfl (mX (by simp)) (bQ (v':=(dV (av 2) 13 ((s_23.1.set (0+(s_23.2).toNat) e_42).set (0+((w64 (s_23.2-1))).toNat) e_45))) 37 rfl (mX (by simp)) (bQ (v':=(dV (av 2) 13 ((s_23.1.set (0+(s_23.2).toNat) e_42).set (0+((w64 (s_23.2-1))).toNat) e_45))) 39 rfl (mX (by simp)) (bQ (v':=(dV (av 2) 13 ((s_23.1.set (0+(s_23.2).toNat) e_42).set (0+((w64 (s_23.2-1))).toNat) e_45))) 42 rfl (mX (by simp)) (bQ (v':=(dV (av 2) 13 ((s_23.1.set (0+(s_23.2).toNat) e_42).set (0+((w64 (s_23.2-1))).toNat) e_45))) 47 rfl (mX (by simp)) (aj (aa (ae (vI s_23.2) wz rfl (ae (vI (w64 (s_23.2-1))) wz rfl (ae (vI (w64 (s_23.2-1))) wz rfl (aj ?_)))))))))))
        obtain rfl:=ah hc_24
        exact aO (k_18,(((s_23.1.set (0+(s_23.2).toNat) e_42).set (0+((w64 (s_23.2-1))).toNat) e_45),(w64 (s_23.2-1)))) hL_25 (ls_ _) rfl (aK rfl)
       ·refine aA rfl hc_40 (aS ?_)
        obtain rfl:=ah hc_24
        obtain rfl:=ah hL_25
        exact aU ((s_23.1,s_23.2)) rfl rfl (aK rfl)
    ·rintro s_23 ho_ sl_ H_ hp_ hq_
     subst ho_
     refine aN _ hp_ hq_ (aa (ae (vI s_12.2) wz rfl (ae (vI (w64 (s_12.2+1))) wz rfl (ae (vI (w64 (s_12.2+1))) wz rfl (aj ?_)))))
     obtain rfl:=ah hc_13
     exact aO (k_7,(s_23.1,(w64 (s_12.2+1)))) hL_14 (ls_ _) rfl (aK rfl)
   ·refine aA rfl hc_17 (aS ?_)
    obtain rfl:=ah hc_13
    obtain rfl:=ah hL_14
    exact aU ((s_12.1,s_12.2)) rfl rfl (aK rfl)
 ·rintro s_12 ho_ sl_ H_ hp_ hq_
  subst ho_
  show xA _ _ _ _ _ _ _ _
  obtain rfl:=ah hF
  exact JM (H0:=([((av 0),some (.cells 4 [(vS cmp4_5.Key),(vS cmp4_5.Screen),(vI cmp4_5.Zone),(vL eS cmp4_5.Tags)])),((av 1),some (.cells 1 [(vI cmp4_6)])),((av 2),gB 13 Entry.enc s_12.1)]:Hp)) (sl':=envS []) hq_ (Hl (bs:=([(.cells 4 [(vS cmp4_5.Key),(vS cmp4_5.Screen),(vI cmp4_5.Zone),(vL eS cmp4_5.Tags)]),(.cells 1 [(vI cmp4_6)])]:List Box)) (os:=([(.cells 4 [(vS cmp4_5.Key),(vS cmp4_5.Screen),(vI cmp4_5.Zone),(vL eS cmp4_5.Tags)]),(.cells 1 [(vI cmp4_6)])]:List Box)) (xs:=data_1) (o:=gB 13 Entry.enc s_12.1) (.inl rfl) [] trivial rfl rfl rfl rfl rfl (by kernel_rfl) tY rfl)
theorem l7 {data_1:(List Entry)} {a_2:Int} {b_3:Int} {limit_4:Int} {cmp5_6:Player} {cmp5_7:Int} {r:(List Entry)} (hF:gz data_1 a_2 b_3 limit_4 cmp5_6 cmp5_7=some r) :
  FnM Tryz.prog 122 [(dV (av 2) 13 data_1),(vI a_2),(vI b_3),(vI limit_4),(.fn 96 [(.ref (av 0) 0 0),(.ref (av 1) 0 0)])] (([(.cells 4 [(vS cmp5_6.Key),(vS cmp5_6.Screen),(vI cmp5_6.Zone),(vL eS cmp5_6.Tags)]),(.cells 1 [(vI cmp5_7)])]:List Box)++gI 13 Entry.enc data_1) (.tup []) (([(.cells 4 [(vS cmp5_6.Key),(vS cmp5_6.Screen),(vI cmp5_6.Zone),(vL eS cmp5_6.Tags)]),(.cells 1 [(vI cmp5_7)])]:List Box).map some++gT data_1 (gB 13 Entry.enc r)):=by
 refine FnM.of_wHv ⟨Tryz.prog,148,[],[]⟩ rfl Tryz.func122 rfl rfl (lb_ rfl) (by kernel_rfl) ?_
 unfold gz at hF
 refine af (aa (ae (vB true) wz rfl (aj (af (aa (ae (vB true) wz rfl (aj ?_)))))))
 obtain ⟨o_16,hj_17,hF⟩:=bind_some hF
 obtain ⟨nq_23,hj_17⟩:=ek hj_17
 refine aG (β:=(Unit)) (λ(s_13:Unit)=>([]:SL_)) (λ(s_13:Unit)=>([((av 0),some (.cells 4 [(vS cmp5_6.Key),(vS cmp5_6.Screen),(vI cmp5_6.Zone),(vL eS cmp5_6.Tags)])),((av 1),some (.cells 1 [(vI cmp5_7)])),((av 2),gB 13 Entry.enc data_1)]:Hp)) (λp=>o_16 = .go p) ?_ ?_
 ·refine aD (aX (β:=Nat×(Unit)) (λp=>(λ(k_8:Nat) (s_13:Unit)=>([(0,(dV (av 2) 13 data_1)),(1,(vI a_2)),(2,(vI b_3)),(3,(vI limit_4)),(4,(.fn 96 [(.ref (av 0) 0 0),(.ref (av 1) 0 0)])),(10,(vB true)),(11,(vB true))]:SL_)) p.1 p.2) (λp=>(λ(k_8:Nat) (s_13:Unit)=>([((av 0),some (.cells 4 [(vS cmp5_6.Key),(vS cmp5_6.Screen),(vI cmp5_6.Zone),(vL eS cmp5_6.Tags)])),((av 1),some (.cells 1 [(vI cmp5_7)])),((av 2),gB 13 Entry.enc data_1)]:Hp)) p.1 p.2) (λp=>cO (λs=>fP b_3 a_2 data_1 cmp5_6 cmp5_7 limit_4 s) p.1 p.2=some o_16) (λp=>p.1) (nq_23,()) hj_17 rfl (aK rfl) ?_)
  rintro ⟨k_8,s_13⟩ hL_15
  dsimp only at hL_15
  cases k_8 with
  | zero=>cases hL_15
  | succ k_8 =>
   obtain ⟨c_,hc_14,hL_15⟩:=bind_some hL_15
   unfold fP at hc_14
   refine aD (af (aa (ae (vI b_3) wz rfl (ae (vI a_2) wz rfl (ae (vI (w64 (b_3-a_2))) wz rfl (ae (vI (w64 (b_3-a_2))) wz rfl (aj (af (af (aa (ae (vI (w64 (b_3-a_2))) wz rfl (ae (vB (decide ((w64 (b_3-a_2))<=12))) wz rfl (aj ?_)))))))))))))
   rcases au hc_14 with⟨hc_18,hc_14⟩|⟨hc_18,hc_14⟩
   ·refine aB rfl hc_18 (af (aa (ae (dV (av 2) 13 data_1) wz rfl (ae (vI a_2) wz rfl (ae (vI b_3) wz rfl (ae (.fn 96 [(.ref (av 0) 0 0),(.ref (av 1) 0 0)]) wz rfl ?_))))))
    obtain ⟨r_19,hr_20,hc_14⟩:=bind_some hc_14
    obtain ⟨_,hs_21,hc_14⟩:=bind_some hc_14
    replace hs_21:=qi hs_21
    refine nQ 0 [0,1] 2 0 il ft (kw hr_20) rfl hb134 rfl rfl rfl (by kernel_rfl) rfl (.inr (.inl rfl)) rfl (by kernel_rfl) (by kernel_rfl) (by kernel_rfl) (by kernel_rfl) rfl (by decide) (by kernel_rfl) tY (Ap hs_21) wz ([((av 0),some (.cells 4 [(vS cmp5_6.Key),(vS cmp5_6.Screen),(vI cmp5_6.Zone),(vL eS cmp5_6.Tags)])),((av 1),some (.cells 1 [(vI cmp5_7)])),((av 2),gB 13 Entry.enc r_19)]:Hp) (by kernel_rfl) (bQ (v':=(dV (av 2) 13 r_19)) 0 rfl (mX hs_21.symm) (bQ (v':=(dV (av 2) 13 r_19)) 26 rfl (mX hs_21.symm) (aj ?_)))
    obtain rfl:=ah hc_14
    obtain rfl:=ah hL_15
    obtain rfl:=ah hF
    exact aC (Hl (bs:=([(.cells 4 [(vS cmp5_6.Key),(vS cmp5_6.Screen),(vI cmp5_6.Zone),(vL eS cmp5_6.Tags)]),(.cells 1 [(vI cmp5_7)])]:List Box)) (os:=([(.cells 4 [(vS cmp5_6.Key),(vS cmp5_6.Screen),(vI cmp5_6.Zone),(vL eS cmp5_6.Tags)]),(.cells 1 [(vI cmp5_7)])]:List Box)) (xs:=data_1) (o:=gB 13 Entry.enc r_19) (.inr rfl) [] trivial rfl rfl rfl rfl rfl (by kernel_rfl) tY rfl)
   ·refine aA rfl hc_18 (ax (af (af (aa (ae (vI limit_4) wz rfl (ae (vB (limit_4==0)) wz rfl (aj ?_)))))))
    rcases au hc_14 with⟨hc_22,hc_14⟩|⟨hc_22,hc_14⟩
    ·refine aB rfl hc_22 (af (aa (ae (dV (av 2) 13 data_1) wz rfl (ae (vI a_2) wz rfl (ae (vI b_3) wz rfl (ae (.fn 96 [(.ref (av 0) 0 0),(.ref (av 1) 0 0)]) wz rfl ?_))))))
     cases hc_14
    ·refine aA rfl hc_22 (ax (af (af (aa (ae (vB true) wz rfl (ae (vB false) wz rfl (aj (aA rfl rfl (ax (af (aa (ae (dV (av 2) 13 data_1) wz rfl (ae (vI a_2) wz rfl (ae (vI b_3) wz rfl (ae (.fn 96 [(.ref (av 0) 0 0),(.ref (av 1) 0 0)]) wz rfl ?_)))))))))))))))
     cases hc_14
 ·rintro s_13 ho_ sl_ H_ hp_ hq_
  subst ho_
  show xA _ _ _ _ _ _ _ _
  obtain rfl:=ah hF
  exact JM (H0:=([((av 0),some (.cells 4 [(vS cmp5_6.Key),(vS cmp5_6.Screen),(vI cmp5_6.Zone),(vL eS cmp5_6.Tags)])),((av 1),some (.cells 1 [(vI cmp5_7)])),((av 2),gB 13 Entry.enc data_1)]:Hp)) (sl':=envS []) hq_ (Hl (bs:=([(.cells 4 [(vS cmp5_6.Key),(vS cmp5_6.Screen),(vI cmp5_6.Zone),(vL eS cmp5_6.Tags)]),(.cells 1 [(vI cmp5_7)])]:List Box)) (os:=([(.cells 4 [(vS cmp5_6.Key),(vS cmp5_6.Screen),(vI cmp5_6.Zone),(vL eS cmp5_6.Tags)]),(.cells 1 [(vI cmp5_7)])]:List Box)) (xs:=data_1) (o:=gB 13 Entry.enc data_1) (.inl rfl) [] trivial rfl rfl rfl rfl rfl (by kernel_rfl) tY rfl)
theorem kT {x_1:(List Entry)} {cmp2_3:Player} {cmp2_4:Int} {r:(List Entry)} (hF:dQ x_1 cmp2_3 cmp2_4=some r) :
  FnM Tryz.prog 95 [(dV (av 2) 13 x_1),(.fn 96 [(.ref (av 0) 0 0),(.ref (av 1) 0 0)])] (([(.cells 4 [(vS cmp2_3.Key),(vS cmp2_3.Screen),(vI cmp2_3.Zone),(vL eS cmp2_3.Tags)]),(.cells 1 [(vI cmp2_4)])]:List Box)++gI 13 Entry.enc x_1) (.tup []) (([(.cells 4 [(vS cmp2_3.Key),(vS cmp2_3.Screen),(vI cmp2_3.Zone),(vL eS cmp2_3.Tags)]),(.cells 1 [(vI cmp2_4)])]:List Box).map some++gT x_1 (gB 13 Entry.enc r)):=by
 refine FnM.of_wHv ⟨Tryz.prog,14,[],[]⟩ rfl Tryz.func95 rfl rfl (lb_ rfl) (by kernel_rfl) ?_
 unfold dQ at hF
 refine af (aa (ae (dV (av 2) 13 x_1) wz rfl (De qb rfl wz (ae (vI (x_1.length:Int)) wz rfl (aj (aa (ae (dV (av 2) 13 x_1) wz rfl (ae (vI (x_1.length:Int)) wz rfl (ae (vI (x_1.length:Int)) wz rfl (xY un3 GI rfl wz ?_))))))))))
 obtain ⟨r_5,hr_6,hF⟩:=bind_some hF
 refine aF (zM hr_6) rfl hb67 rfl rfl rfl rfl wz (ae (.fn 96 [(.ref (av 0) 0 0),(.ref (av 1) 0 0)]) wz rfl ?_)
 obtain ⟨r_7,hr_8,hF⟩:=bind_some hF
 obtain ⟨_,hs_9,hF⟩:=bind_some hF
 replace hs_9:=qi hs_9
 refine nQ 0 [0,1] 2 0 il ft (l7 hr_8) rfl hb122 rfl rfl rfl (by kernel_rfl) rfl (.inr (.inl rfl)) rfl (by kernel_rfl) (by kernel_rfl) (by kernel_rfl) (by kernel_rfl) rfl (by decide) (by kernel_rfl) tY (Ap hs_9) wz ([((av 0),some (.cells 4 [(vS cmp2_3.Key),(vS cmp2_3.Screen),(vI cmp2_3.Zone),(vL eS cmp2_3.Tags)])),((av 1),some (.cells 1 [(vI cmp2_4)])),((av 2),gB 13 Entry.enc r_7)]:Hp) (by kernel_rfl) (bQ (v':=(dV (av 2) 13 r_7)) 0 rfl (mX hs_9.symm) (bQ (v':=(dV (av 2) 13 r_7)) 5 rfl (mX hs_9.symm) (bQ (v':=(dV (av 2) 13 r_7)) 7 rfl (mX hs_9.symm) (aj ?_))))
 show xA _ _ _ _ _ _ _ _
 obtain rfl:=ah hF
 exact Hl (bs:=([(.cells 4 [(vS cmp2_3.Key),(vS cmp2_3.Screen),(vI cmp2_3.Zone),(vL eS cmp2_3.Tags)]),(.cells 1 [(vI cmp2_4)])]:List Box)) (os:=([(.cells 4 [(vS cmp2_3.Key),(vS cmp2_3.Screen),(vI cmp2_3.Zone),(vL eS cmp2_3.Tags)]),(.cells 1 [(vI cmp2_4)])]:List Box)) (xs:=x_1) (o:=gB 13 Entry.enc r_7) (.inl rfl) [] trivial rfl rfl rfl rfl rfl (by kernel_rfl) tY rfl
theorem FI {l_1:(List Entry)} {p_2:Player} {atv_3:Int} {r:(List Entry)} (hF:sJ l_1 p_2 atv_3=some r) :
  FnM Tryz.prog 68 [(vL Entry.enc l_1),(.d (.agg (Player.enc p_2))),(vI atv_3)] [] (vL Entry.enc r) []:=by
 refine FnM.of_wH ⟨Tryz.prog,41,[],[]⟩ rfl Tryz.func68 rfl rfl (lb_ rfl) (by kernel_rfl) ?_
 unfold sJ at hF
 refine af (aa (dZ 0 (.inl rfl) [(vS p_2.Key),(vS p_2.Screen),(vI p_2.Zone),(vL eS p_2.Tags)] rfl rfl wz (λn_4=>dZ 0 (.inl rfl) [(vI atv_3)] rfl rfl wz (λn_5=>ae .nil wz rfl (aj (af (aa (ae .nil wz rfl (aj (af (af (aa (ae (vL Entry.enc l_1) wz rfl (bX qb rfl wz (ae (vI 0) wz rfl (aj (lq (λn_12 => ?_))))))))))))))))))
 obtain ⟨o_17,hj_18,hF⟩:=bind_some hF
 obtain ⟨hn_10,hj_18⟩:=bn hj_18
 refine aG (β:=((List Entry))×Nm) (λp=>(λ(s_11:List Entry) (n_14:Nm)=>([(4,(.ref n_4 0 0)),(5,(.ref n_5 0 0)),(7,(gV n_14 13 s_11))]:SL_)) p.1 p.2) (λp=>(λ(s_11:List Entry) (n_14:Nm)=>([(n_4,some (.cells 4 [(vS p_2.Key),(vS p_2.Screen),(vI p_2.Zone),(vL eS p_2.Tags)])),(n_5,some (.cells 1 [(vI atv_3)])),(n_14,gB 13 Entry.enc s_11)]:Hp)) p.1 p.2) (λp=>o_17 = .go p.1) ?_ ?_
 ·refine aD (aX (β:=Nat×(List Entry)×((List Entry))×Nm) (λp=>(λ(k_6:Nat) (l_7:List Entry) (s_11:List Entry) (n_14:Nm)=>([(4,(.ref n_4 0 0)),(5,(.ref n_5 0 0)),(7,(gV n_14 13 s_11)),(12,(vL Entry.enc l_1)),(13,(vI (l_1.length:Int))),(14,(vI (k_6:Int)))]:SL_)) p.1 p.2.1 p.2.2.1 p.2.2.2) (λp=>(λ(k_6:Nat) (l_7:List Entry) (s_11:List Entry) (n_14:Nm)=>([(n_4,some (.cells 4 [(vS p_2.Key),(vS p_2.Screen),(vI p_2.Zone),(vL eS p_2.Tags)])),(n_5,some (.cells 1 [(vI atv_3)])),(n_14,gB 13 Entry.enc s_11)]:Hp)) p.1 p.2.1 p.2.2.1 p.2.2.2) (λp=>dG (λk x s=>nP p_2 atv_3 k x s) p.2.1 p.1 p.2.2.1=some o_17/\(l_1).drop p.1=p.2.1) (λp=>p.2.1.length) (0,l_1,([]:List Entry),n_12) ⟨hj_18,rfl⟩ rfl (aK rfl) ?_)
  rintro ⟨k_6,l_7,s_11,n_14⟩ ⟨hL_16,hD_9⟩
  dsimp only at hL_16 hD_9
  cases l_7 with
  | nil =>
   obtain rfl:=ah hL_16
   refine af (aa (ae (vB (decide ((k_6:Int)<(l_1.length:Int)))) wz rfl (aj ?_)))
   refine af (aA rfl (drop_nil hD_9) (aS ?_))
   exact aU (s_11,n_14) rfl rfl (aK rfl)
  | cons x_8 l_7 =>
   obtain ⟨c_,hc_15,hL_16⟩:=bind_some hL_16
   refine af (aa (ae (vB (decide ((k_6:Int)<(l_1.length:Int)))) wz rfl (aj ?_)))
   refine af (aB rfl (bE hD_9) (ax ?_))
   unfold nP at hc_15
   refine af (aD (af (aa (dL mE rfl rfl (bL hD_9) rfl wz (bz gK jR rfl (.d (.agg (Entry.enc x_8))) rfl wz (bR 0 (.inl rfl) z38 rfl wz (λn_19=>eu 0 il ft 3 gK rfl rfl [(vS x_8.Key),(vS x_8.Item),(vI x_8.Version),(vI x_8.First),(vI x_8.Last),(vI x_8.Every),(vI x_8.Days),(vL eI x_8.Except),(vI x_8.From),(vI x_8.To),(vI x_8.Prio),(vL eS x_8.Tags),(vB x_8.Gone)] rfl wz (aj (af (aa (ay 0 3 il ft gK jR rfl rfl (.d (.agg (Entry.enc x_8))) rfl wz (aJ uD rfl 2 rfl wz (ay 0 0 il ft sz3 ag3 rfl rfl (vI p_2.Zone) rfl wz (ay 0 1 il ft sz3 ag3 rfl rfl (vI atv_3) rfl wz ?_))))))))))))))
   obtain ⟨r_20,hr_21,hc_15⟩:=bind_some hc_15
   refine aF (uH hr_21) rfl hb93 rfl rfl rfl rfl wz (ae (.tup [(vI r_20.1),(vB r_20.2)]) wz rfl (ae (vI r_20.1) wz rfl (ae (vB r_20.2) wz rfl (ae (vI r_20.1) wz rfl (ae (vB r_20.2) wz rfl (aj (af ?_)))))))
   obtain ⟨v_22,h_23,hc_15⟩:=bind_some hc_15
   refine aG (β:=Unit) (λ_=>([(4,(.ref n_4 0 0)),(5,(.ref n_5 0 0)),(7,(gV n_14 13 s_11)),(9,(.ref n_19 0 0)),(12,(vL Entry.enc l_1)),(13,(vI (l_1.length:Int))),(14,(vI (k_6:Int))),(31,(vB v_22))]:SL_)) (λ_=>([(n_4,some (.cells 4 [(vS p_2.Key),(vS p_2.Screen),(vI p_2.Zone),(vL eS p_2.Tags)])),(n_5,some (.cells 1 [(vI atv_3)])),(n_14,gB 13 Entry.enc s_11),(n_19,some (.cells 13 [(vS x_8.Key),(vS x_8.Item),(vI x_8.Version),(vI x_8.First),(vI x_8.Last),(vI x_8.Every),(vI x_8.Days),(vL eI x_8.Except),(vI x_8.From),(vI x_8.To),(vI x_8.Prio),(vL eS x_8.Tags),(vB x_8.Gone)]))]:Hp)) (λ_=>True) ?_ ?_
   ·refine aa (ae (vB r_20.2) wz rfl ?_)
    rcases au h_23 with⟨hc_24,h_23⟩|⟨hc_24,h_23⟩
    ·refine aH rfl hc_24 wz (ay 0 3 il ft gK jR rfl rfl (.d (.agg (Entry.enc x_8))) rfl wa (ay 0 0 il ft p8 uI rfl rfl (.d (.agg (Player.enc p_2))) rfl wa ?_))
     obtain ⟨r_25,hr_26,h_23⟩:=bind_some h_23
     refine aF (Dm hr_26) rfl hb94 rfl rfl rfl rfl wa (ae (vB r_25) wz rfl (aj ?_))
     obtain rfl:=ah h_23
     exact cu
    ·refine aH rfl hc_24 wz (ak wa (ak wa (ak wa (ae (vB false) wz rfl (aj ?_)))))
     obtain rfl:=ah h_23
     exact cu
   ·rintro ⟨⟩ _ sl_ H_ hp_ hq_
    refine aN _ hp_ hq_ ?_
    obtain ⟨v_27,h_28,hc_15⟩:=bind_some hc_15
    refine aG (β:=Nm) (λ(n_29:Nm)=>([(4,(.ref n_4 0 0)),(5,(.ref n_5 0 0)),(7,(gV n_29 13 v_27)),(12,(vL Entry.enc l_1)),(13,(vI (l_1.length:Int))),(14,(vI (k_6:Int)))]:SL_)) (λ(n_29:Nm)=>([(n_4,some (.cells 4 [(vS p_2.Key),(vS p_2.Screen),(vI p_2.Zone),(vL eS p_2.Tags)])),(n_5,some (.cells 1 [(vI atv_3)])),(n_29,gB 13 Entry.enc v_27),(n_19,some (.cells 13 [(vS x_8.Key),(vS x_8.Item),(vI x_8.Version),(vI x_8.First),(vI x_8.Last),(vI x_8.Every),(vI x_8.Days),(vL eI x_8.Except),(vI x_8.From),(vI x_8.To),(vI x_8.Prio),(vL eS x_8.Tags),(vB x_8.Gone)]))]:Hp)) (λ_=>True) ?_ ?_
    ·rcases au h_28 with⟨hc_30,h_28⟩|⟨hc_30,h_28⟩
     ·refine aB rfl hc_30 (aa (ae (gV n_14 13 s_11) wz rfl (ay 0 3 il ft gK jR rfl rfl (.d (.agg (Entry.enc x_8))) rfl wz (dW (([x_8]:List Entry).map Entry.enc) mE ez26 rfl rfl rfl rfl rfl wz ?_))))
      obtain ⟨a_31,hz_32,h_28⟩:=bind_some h_28
      refine mq 0 il ft (i:=2) KZ KZ gK z38 rfl (by decide) by38 (by decide) (λ_=>rfl) rfl rfl rfl hz_32 wz (λn_33=>ae (gV n_33 13 a_31) wz rfl (aj ?_))
      obtain rfl:=ah h_28
      exact aU n_33 trivial rfl (aK rfl)
     ·refine aA rfl hc_30 (ax ?_)
      obtain rfl:=ah h_28
      exact aU n_14 trivial rfl (aK rfl)
    ·rintro n_29 _ sl_ H_ hp_ hq_
     refine aN _ hp_ hq_ (aa (gm (bH hD_9 hn_10) wz rfl (ae (vI ((k_6+1:Nat):Int)) wz rfl (aj ?_))))
     obtain rfl:=ah hc_15
     exact aO (k_6+1,l_7,v_27,n_29) ⟨hL_16,aP hD_9⟩ (ls_ _) rfl (aK rfl)
 ·rintro ⟨s_11,n_14⟩ ho_ sl_ H_ hp_ hq_
  subst ho_
  refine aN _ hp_ hq_ (af (aa (ae (gV n_14 13 s_11) wz rfl (ae (.fn 96 [(.ref n_4 0 0),(.ref n_5 0 0)]) wz rfl ?_))))
  obtain ⟨r_34,hr_35,hF⟩:=bind_some hF
  obtain ⟨_,hs_36,hF⟩:=bind_some hF
  replace hs_36:=qi hs_36
  refine nQ 0 [0,1] 2 0 il ft (kT hr_35) rfl hb95 rfl rfl rfl (by kernel_rfl) rfl (.inl rfl) rfl (by kernel_rfl) (by kernel_rfl) (by kernel_rfl) (by kernel_rfl) rfl (by decide) (by kernel_rfl) tY (Ap hs_36) wz ([(n_4,some (.cells 4 [(vS p_2.Key),(vS p_2.Screen),(vI p_2.Zone),(vL eS p_2.Tags)])),(n_5,some (.cells 1 [(vI atv_3)])),(n_14,gB 13 Entry.enc r_34)]:Hp) (by kernel_rfl) (bQ (v':=(gV n_14 13 r_34)) 37 rfl (bI hs_36.symm) (bQ (v':=(gV n_14 13 r_34)) 7 rfl (bI hs_36.symm) (aj (af (aa (ae (gV n_14 13 r_34) wz rfl (ae (gV n_14 13 r_34) wz rfl (aj (gX 2 rfl (dY 6 2 rfl rfl (dY 7 2 rfl rfl (dY 37 2 rfl rfl (dY 40 2 rfl rfl ?_)))))))))))))
  obtain rfl:=ah hF
  exact aC (bv (.inr rfl) [(vL Entry.enc r_34)] ⟨rfl,trivial⟩ rfl rfl rfl)
theorem Af {l_1:(List Entry)} {p_2:Player} {atv_3:Int} {r:Entry} (hF:sZ l_1 p_2 atv_3=some r) :
  FnM Tryz.prog 46 [(vL Entry.enc l_1),(.d (.agg (Player.enc p_2))),(vI atv_3)] [] (.d (.agg (Entry.enc r))) []:=by
 refine FnM.of_wH ⟨Tryz.prog,19,[],[]⟩ rfl Tryz.func46 rfl rfl (lb_ rfl) (by kernel_rfl) ?_
 unfold sZ at hF
 refine af (aa (dZ 0 (.inl rfl) [(vS p_2.Key),(vS p_2.Screen),(vI p_2.Zone),(vL eS p_2.Tags)] rfl rfl wz (λn_4=>bR 0 (.inl rfl) z38 rfl wz (λn_5=>aj (af (af (aa (ae (vL Entry.enc l_1) wz rfl (ay 0 0 il ft p8 uI rfl rfl (.d (.agg (Player.enc p_2))) rfl wz (ae (vI atv_3) wz rfl ?_))))))))))
 obtain ⟨r_6,hr_7,hF⟩:=bind_some hF
 refine aF (FI hr_7) rfl hb68 rfl rfl rfl rfl wz (ae (vL Entry.enc r_6) wz rfl (aj (af (aa (ae (vL Entry.enc r_6) wz rfl (bX qb rfl wz (ae (vB (decide ((r_6.length:Int)>0))) wz rfl (aj ?_))))))))
 rcases au hF with⟨hc_8,hF⟩|⟨hc_8,hF⟩
 ·refine aB rfl hc_8 (af (aa (ae (vL Entry.enc r_6) wz rfl ?_)))
  obtain ⟨y_9,hy_10,hF⟩:=bind_some hF
  refine dL mE rfl rfl hy_10 rfl wz (bz gK jR rfl (.d (.agg (Entry.enc y_9))) rfl wz (eu 0 il ft 1 gK rfl rfl [(vS y_9.Key),(vS y_9.Item),(vI y_9.Version),(vI y_9.First),(vI y_9.Last),(vI y_9.Every),(vI y_9.Days),(vL eI y_9.Except),(vI y_9.From),(vI y_9.To),(vI y_9.Prio),(vL eS y_9.Tags),(vB y_9.Gone)] rfl wz (aj ?_)))
  obtain rfl:=ah hF
  exact aC (bv (.inr rfl) [(.d (.agg (Entry.enc y_9)))] ⟨⟨1,_,_,_,_,_,_,_,rfl,rfl,gK,jR,rfl⟩,trivial⟩ rfl rfl rfl)
 ·refine aA rfl hc_8 (ax (af (aa (ae (.agg [(vS (⟨#[]⟩:ByteArray)),(vS (⟨#[]⟩:ByteArray)),(vI 0),(vI 0),(vI 0),(vI 0),(vI 0),.nil,(vI 0),(vI 0),(vI 0),.nil,(vB false)]) wz (by kernel_rfl) (eu 0 il ft 1 gK rfl rfl [(vS (⟨#[]⟩:ByteArray)),(vS (⟨#[]⟩:ByteArray)),(vI 0),(vI 0),(vI 0),(vI 0),(vI 0),.nil,(vI 0),(vI 0),(vI 0),.nil,(vB false)] rfl wz (aj ?_))))))
  obtain rfl:=ah hF
  exact aC (bv (.inr rfl) [(.agg [(vS (⟨#[]⟩:ByteArray)),(vS (⟨#[]⟩:ByteArray)),(vI 0),(vI 0),(vI 0),(vI 0),(vI 0),.nil,(vI 0),(vI 0),(vI 0),.nil,(vB false)])] ⟨⟨1,_,_,_,_,_,_,_,rfl,rfl,gK,jR,rfl⟩,trivial⟩ rfl rfl rfl)
theorem Aa {a_1:(List Entry)} {b_2:(List Entry)} {p_3:Player} {wv_4:Window} {r:(List Window)} (hF:jP a_1 b_2 p_3 wv_4=some r) :
  FnM Tryz.prog 18 [(vL Entry.enc a_1),(vL Entry.enc b_2),(.d (.agg (Player.enc p_3))),(.d (.agg (Window.enc wv_4)))] [] (vL Window.enc r) []:=by
 refine FnM.of_wH ⟨Tryz.prog,105,[],[]⟩ rfl Tryz.func18 rfl rfl (lb_ rfl) (by kernel_rfl) ?_
 unfold jP at hF
 refine af (aa (dZ 0 (.inl rfl) [(vS p_3.Key),(vS p_3.Screen),(vI p_3.Zone),(vL eS p_3.Tags)] rfl rfl wz (λn_5=>dZ 0 (.inl rfl) [(vI wv_4.From),(vI wv_4.To)] rfl rfl wz (λn_6=>ae .nil wz rfl (aj (af (bN (ae (vL Entry.enc a_1) wz rfl (aJ uD rfl 2 rfl wz (ay 2 0 (.inr (by kernel_rfl)) (λ_ _ ag=>trivial) sz3 ag3 rfl rfl (vI p_3.Zone) rfl wz (ay 3 1 (.inr (by kernel_rfl)) (λ_ _ ag=>⟨.inl ⟨rfl,rfl⟩,trivial⟩) eP iO rfl rfl (.d (.agg (Window.enc wv_4))) rfl wz ?_)))))))))))
 obtain ⟨r_7,hr_8,hF⟩:=bind_some hF
 refine aF (xq hr_8) rfl hb43 rfl rfl rfl rfl wz (ae (vL Entry.enc b_2) wz rfl (aJ uD rfl 2 rfl wz (ay 7 0 (.inr (by kernel_rfl)) (λ_ _ ag=>⟨.inl ⟨rfl,rfl⟩,⟨.inl ⟨rfl,rfl⟩,trivial⟩⟩) sz3 ag3 rfl rfl (vI p_3.Zone) rfl wz (ay 8 1 (.inr (by kernel_rfl)) (λ_ _ ag=>⟨.inl ⟨rfl,rfl⟩,⟨.inl ⟨rfl,rfl⟩,⟨.inl ⟨rfl,rfl⟩,trivial⟩⟩⟩) eP iO rfl rfl (.d (.agg (Window.enc wv_4))) rfl wz ?_))))
 obtain ⟨r_9,hr_10,hF⟩:=bind_some hF
 refine aF (xq hr_10) rfl hb43 rfl rfl rfl rfl wz (dW (([r_7,r_9]:List (List Int)).map (eL eI)) es99 ez99 rfl rfl rfl rfl rfl wz ?_)
 obtain ⟨r_11,hr_12,hF⟩:=bind_some hF
 refine Lm 11 (.inr (by kernel_rfl)) (qc hr_12) rfl hb42 (by kernel_rfl) (by kernel_rfl) (by kernel_rfl) wz (λn_13=>ae (gV n_13 1 r_11) wz rfl (aj (af (aa (ae (gV n_13 1 r_11) wz rfl ?_)))))
 obtain ⟨r_14,hr_15,hF⟩:=bind_some hF
 obtain ⟨_,hs_16,hF⟩:=bind_some hF
 replace hs_16:=qi hs_16
 refine nQ 0 [] 2 0 il ft (jF hr_15) rfl hb44 rfl rfl rfl (by kernel_rfl) rfl (.inl rfl) rfl (by kernel_rfl) (by kernel_rfl) (by kernel_rfl) (by kernel_rfl) rfl (by decide) (by kernel_rfl) tY (Ap hs_16) wz ([(n_5,some (.cells 4 [(vS p_3.Key),(vS p_3.Screen),(vI p_3.Zone),(vL eS p_3.Tags)])),(n_6,some (.cells 2 [(vI wv_4.From),(vI wv_4.To)])),(n_13,gB 1 eI r_14)]:Hp) (by kernel_rfl) (bQ (v':=(gV n_13 1 r_14)) 26 rfl (bI hs_16.symm) (bQ (v':=(gV n_13 1 r_14)) 27 rfl (bI hs_16.symm) (bQ (v':=(gV n_13 1 r_14)) 9 rfl (bI hs_16.symm) (aj (af (aa (ae (gV n_13 1 r_14) wz rfl ?_)))))))
 obtain ⟨r_17,hr_18,hF⟩:=bind_some hF
 refine nQ 0 [] 2 0 il ft (ji hr_18) rfl hb45 rfl rfl rfl (by kernel_rfl) rfl (.inl rfl) rfl (by kernel_rfl) (by kernel_rfl) (by kernel_rfl) (by kernel_rfl) rfl (by decide) (by kernel_rfl) vY (λ_=>rfl) wz ([(n_5,some (.cells 4 [(vS p_3.Key),(vS p_3.Screen),(vI p_3.Zone),(vL eS p_3.Tags)])),(n_6,some (.cells 2 [(vI wv_4.From),(vI wv_4.To)])),(n_13,none)]:Hp) (by kernel_rfl) (ae (vL eI r_17) wz rfl (aj (af (aa (ae .nil wz rfl (aj (af (af (aa (ae (vI 1) wz rfl (aj (lq (λn_25 => ?_)))))))))))))
 obtain ⟨o_30,hj_31,hF⟩:=bind_some hF
 obtain ⟨nq_68,hj_31⟩:=ek hj_31
 refine aG (β:=((List Window)×Int)×Nm) (λp=>(λ(s_24:(List Window)×Int) (n_27:Nm)=>([(10,(gV n_27 2 s_24.1))]:SL_)) p.1 p.2) (λp=>(λ(s_24:(List Window)×Int) (n_27:Nm)=>([(n_5,some (.cells 4 [(vS p_3.Key),(vS p_3.Screen),(vI p_3.Zone),(vL eS p_3.Tags)])),(n_6,some (.cells 2 [(vI wv_4.From),(vI wv_4.To)])),(n_13,none),(n_27,gB 2 Window.enc s_24.1)]:Hp)) p.1 p.2) (λp=>o_30 = .go p.1) ?_ ?_
 ·refine aD (aX (β:=Nat×((List Window)×Int)×Nm) (λp=>(λ(k_19:Nat) (s_24:(List Window)×Int) (n_27:Nm)=>([(0,(vL Entry.enc a_1)),(1,(vL Entry.enc b_2)),(6,(.ref n_5 0 0)),(9,(vL eI r_17)),(10,(gV n_27 2 s_24.1)),(11,(vI s_24.2))]:SL_)) p.1 p.2.1 p.2.2) (λp=>(λ(k_19:Nat) (s_24:(List Window)×Int) (n_27:Nm)=>([(n_5,some (.cells 4 [(vS p_3.Key),(vS p_3.Screen),(vI p_3.Zone),(vL eS p_3.Tags)])),(n_6,some (.cells 2 [(vI wv_4.From),(vI wv_4.To)])),(n_13,none),(n_27,gB 2 Window.enc s_24.1)]:Hp)) p.1 p.2.1 p.2.2) (λp=>cO (λs=>jm r_17 a_1 p_3 b_2 s) p.1 p.2.1=some o_30) (λp=>p.1) (nq_68,(([]:List Window),1),n_25) hj_31 rfl (aK rfl) ?_)
  rintro ⟨k_19,s_24,n_27⟩ hL_29
  dsimp only at hL_29
  cases k_19 with
  | zero=>cases hL_29
  | succ k_19 =>
   obtain ⟨c_,hc_28,hL_29⟩:=bind_some hL_29
   unfold jm at hc_28
   refine af (af (aa (ae (vI s_24.2) wz rfl (ae (vL eI r_17) wz rfl (bX nL rfl wz (ae (vB (decide (s_24.2<(r_17.length:Int)))) wz rfl (aj ?_)))))))
   rcases au hc_28 with⟨hc_32,hc_28⟩|⟨hc_32,hc_28⟩
   ·refine aB rfl hc_32 (ax (af (aD (af (bN (ae (vL Entry.enc a_1) wz rfl (ay 1 0 (.inr (by kernel_rfl)) (λ_ _ ag=>trivial) p8 uI rfl rfl (.d (.agg (Player.enc p_3))) rfl wz (ae (vL eI r_17) wz rfl (ae (vI s_24.2) wz rfl (ae (vI (w64 (s_24.2-1))) wz rfl ?_))))))))))
    obtain ⟨y_33,hy_34,hc_28⟩:=bind_some hc_28
    refine dL iE rfl rfl hy_34 rfl wz (bz sz3 ag3 rfl (vI y_33) rfl wz ?_)
    obtain ⟨r_35,hr_36,hc_28⟩:=bind_some hc_28
    refine aF (Af hr_36) rfl hb46 rfl rfl rfl rfl wz (ae (vL Entry.enc b_2) wz rfl (ay 9 0 (.inr (by kernel_rfl)) (λ_ _ ag=>⟨.inl ⟨rfl,rfl⟩,trivial⟩) p8 uI rfl rfl (.d (.agg (Player.enc p_3))) rfl wz (ae (vL eI r_17) wz rfl (ae (vI s_24.2) wz rfl (ae (vI (w64 (s_24.2-1))) wz rfl ?_)))))
    obtain ⟨y_37,hy_38,hc_28⟩:=bind_some hc_28
    refine dL iE rfl rfl hy_38 rfl wz (bz sz3 ag3 rfl (vI y_37) rfl wz ?_)
    obtain ⟨r_39,hr_40,hc_28⟩:=bind_some hc_28
    refine aF (Af hr_40) rfl hb46 rfl rfl rfl rfl wz (bR 16 (.inr (by kernel_rfl)) z38 rfl wz (λn_41=>bR 17 (.inr (by kernel_rfl)) z38 rfl wz (λn_42=>eu 18 (.inr (by kernel_rfl)) (λ_ _ ag=>⟨.inr (.inr (by kernel_rfl)),⟨.inr (.inr (by kernel_rfl)),⟨.inr (.inr (by kernel_rfl)),⟨.inr (.inr (by kernel_rfl)),trivial⟩⟩⟩⟩) 4 gK rfl rfl [(vS r_35.Key),(vS r_35.Item),(vI r_35.Version),(vI r_35.First),(vI r_35.Last),(vI r_35.Every),(vI r_35.Days),(vL eI r_35.Except),(vI r_35.From),(vI r_35.To),(vI r_35.Prio),(vL eS r_35.Tags),(vB r_35.Gone)] rfl wz (eu 19 (.inr (by kernel_rfl)) (λ_ _ ag=>⟨.inr (.inr (by kernel_rfl)),⟨.inr (.inr (by kernel_rfl)),⟨.inr (.inr (by kernel_rfl)),⟨.inr (.inr (by kernel_rfl)),⟨.inr (.inr (by kernel_rfl)),trivial⟩⟩⟩⟩⟩) 5 gK rfl rfl [(vS r_39.Key),(vS r_39.Item),(vI r_39.Version),(vI r_39.First),(vI r_39.Last),(vI r_39.Every),(vI r_39.Days),(vL eI r_39.Except),(vI r_39.From),(vI r_39.To),(vI r_39.Prio),(vL eS r_39.Tags),(vB r_39.Gone)] rfl wz (aj (af (af ?_)))))))
    obtain ⟨v_43,h_44,hc_28⟩:=bind_some hc_28
    refine aG (β:=Unit) (λ_=>([(0,(vL Entry.enc a_1)),(1,(vL Entry.enc b_2)),(6,(.ref n_5 0 0)),(9,(vL eI r_17)),(10,(gV n_27 2 s_24.1)),(11,(vI s_24.2)),(64,(vB v_43))]:SL_)) (λ_=>([(n_5,some (.cells 4 [(vS p_3.Key),(vS p_3.Screen),(vI p_3.Zone),(vL eS p_3.Tags)])),(n_6,some (.cells 2 [(vI wv_4.From),(vI wv_4.To)])),(n_13,none),(n_27,gB 2 Window.enc s_24.1),(n_41,some (.cells 13 [(vS r_35.Key),(vS r_35.Item),(vI r_35.Version),(vI r_35.First),(vI r_35.Last),(vI r_35.Every),(vI r_35.Days),(vL eI r_35.Except),(vI r_35.From),(vI r_35.To),(vI r_35.Prio),(vL eS r_35.Tags),(vB r_35.Gone)])),(n_42,some (.cells 13 [(vS r_39.Key),(vS r_39.Item),(vI r_39.Version),(vI r_39.First),(vI r_39.Last),(vI r_39.Every),(vI r_39.Days),(vL eI r_39.Except),(vI r_39.From),(vI r_39.To),(vI r_39.Prio),(vL eS r_39.Tags),(vB r_39.Gone)]))]:Hp)) (λ_=>True) ?_ ?_
    ·refine aa (aJ j5 rfl 0 rfl wz (ay 0 4 il ft sz9 ag9 rfl rfl (vS r_35.Key) rfl wz (aJ j5 rfl 0 rfl wz (ay 0 5 il ft sz9 ag9 rfl rfl (vS r_39.Key) rfl wz (ae (vB (sEq r_35.Key r_39.Key)) wz rfl ?_)))))
     rcases au h_44 with⟨hc_45,h_44⟩|⟨hc_45,h_44⟩
     ·refine aH rfl hc_45 wz (aJ yc rfl 1 rfl wa (ay 0 4 il ft sz9 ag9 rfl rfl (vS r_35.Item) rfl wa (aJ yc rfl 1 rfl wa (ay 0 5 il ft sz9 ag9 rfl rfl (vS r_39.Item) rfl wa (ae (vB (sEq r_35.Item r_39.Item)) wa rfl (ae (vB (sEq r_35.Item r_39.Item)) wz rfl (aj ?_)))))))
      obtain rfl:=ah h_44
      exact cu
     ·refine aH rfl hc_45 wz (ak wa (ak wa (ak wa (ak wa (ak wa (ae (vB false) wz rfl (aj ?_)))))))
      obtain rfl:=ah h_44
      exact cu
    ·rintro ⟨⟩ _ sl_ H_ hp_ hq_
     refine aN _ hp_ hq_ ?_
     rcases au hc_28 with⟨hc_46,hc_28⟩|⟨hc_46,hc_28⟩
     ·refine aB rfl hc_46 (aS (aa (ae (vI s_24.2) wz rfl (ae (vI (w64 (s_24.2+1))) wz rfl (ae (vI (w64 (s_24.2+1))) wz rfl (aj ?_))))))
      obtain rfl:=ah hc_28
      exact aO (k_19,(s_24.1,(w64 (s_24.2+1))),n_27) hL_29 (ls_ _) rfl (aK rfl)
     ·refine aA rfl hc_46 (ax (af (af (aa (ae (gV n_27 2 s_24.1) wz rfl (qF zg rfl wz (ae (vI (w64 ((s_24.1.length:Int)-1))) wz rfl (ae (vI (w64 ((s_24.1.length:Int)-1))) wz rfl (aj (af ?_))))))))))
      obtain ⟨v_47,h_48,hc_28⟩:=bind_some hc_28
      refine aG (β:=Unit) (λ_=>([(0,(vL Entry.enc a_1)),(1,(vL Entry.enc b_2)),(6,(.ref n_5 0 0)),(9,(vL eI r_17)),(10,(gV n_27 2 s_24.1)),(11,(vI s_24.2)),(14,(vI (w64 ((s_24.1.length:Int)-1)))),(82,(vB v_47))]:SL_)) (λ_=>([(n_5,some (.cells 4 [(vS p_3.Key),(vS p_3.Screen),(vI p_3.Zone),(vL eS p_3.Tags)])),(n_6,some (.cells 2 [(vI wv_4.From),(vI wv_4.To)])),(n_13,none),(n_27,gB 2 Window.enc s_24.1),(n_41,some (.cells 13 [(vS r_35.Key),(vS r_35.Item),(vI r_35.Version),(vI r_35.First),(vI r_35.Last),(vI r_35.Every),(vI r_35.Days),(vL eI r_35.Except),(vI r_35.From),(vI r_35.To),(vI r_35.Prio),(vL eS r_35.Tags),(vB r_35.Gone)])),(n_42,some (.cells 13 [(vS r_39.Key),(vS r_39.Item),(vI r_39.Version),(vI r_39.First),(vI r_39.Last),(vI r_39.Every),(vI r_39.Days),(vL eI r_39.Except),(vI r_39.From),(vI r_39.To),(vI r_39.Prio),(vL eS r_39.Tags),(vB r_39.Gone)]))]:Hp)) (λ_=>True) ?_ ?_
      ·refine bN (ae (vI (w64 ((s_24.1.length:Int)-1))) wz rfl (ae (vB (decide ((w64 ((s_24.1.length:Int)-1))>=0))) wz rfl ?_))
       rcases au h_48 with⟨hc_49,h_48⟩|⟨hc_49,h_48⟩
       ·refine aH rfl hc_49 wz (ae (gV n_27 2 s_24.1) wa rfl (ae (vI (w64 ((s_24.1.length:Int)-1))) wa rfl ?_))
        obtain ⟨_,hi_50,h_48⟩:=bind_some h_48
        refine oG qQ rfl rfl (jQ hi_50) (iq hi_50) wa (aJ dX rfl 1 rfl wa ?_)
        obtain ⟨e_51,hy_52,h_48⟩:=bind_some h_48
        refine lS 7 3 (.inr (by kernel_rfl)) (λ_ _ ag=>trivial) sz3 ag3 rfl rfl hy_52 (vI e_51.To) rfl wa (ae (vL eI r_17) wa rfl (ae (vI s_24.2) wa rfl (ae (vI (w64 (s_24.2-1))) wa rfl ?_)))
        obtain ⟨y_53,hy_54,h_48⟩:=bind_some h_48
        refine dL iE rfl rfl hy_54 rfl wa (bz sz3 ag3 rfl (vI y_53) rfl wa (ae (vB (e_51.To==y_53)) wa rfl (ae (vB (e_51.To==y_53)) wz rfl (aj ?_))))
        obtain rfl:=ah h_48
        exact cu
       ·refine aH rfl hc_49 wz (ak wa (ak wa (ak wa (ak wa (ak wa (ak wa (ak wa (ak wa (ak wa (ak wa (ak wa (ae (vB false) wz rfl (aj ?_)))))))))))))
        obtain rfl:=ah h_48
        exact cu
      ·rintro ⟨⟩ _ sl_ H_ hp_ hq_
       refine aN _ hp_ hq_ ?_
       rcases au hc_28 with⟨hc_55,hc_28⟩|⟨hc_55,hc_28⟩
       ·refine aB rfl hc_55 (af (aa (ae (gV n_27 2 s_24.1) wz rfl (ae (vI (w64 ((s_24.1.length:Int)-1))) wz rfl (ae (vL eI r_17) wz rfl (ae (vI s_24.2) wz rfl ?_))))))
        obtain ⟨y_56,hy_57,hc_28⟩:=bind_some hc_28
        refine dL iE rfl rfl hy_57 rfl wz (bz sz3 ag3 rfl (vI y_56) rfl wz ?_)
        obtain ⟨_,hi_58,hc_28⟩:=bind_some hc_28
        refine oG qQ rfl rfl (jQ hi_58) (iq hi_58) wz (aJ dX rfl 1 rfl wz ?_)
        obtain ⟨e_59,hy_60,hc_28⟩:=bind_some hc_28
        refine kJ 0 il ft 3 sz3 rfl rfl hy_60 (⟨e_59.From,y_56⟩:Window) rfl wz (bQ (v':=(gV n_27 2 (s_24.1.set (0+((w64 ((s_24.1.length:Int)-1))).toNat) (⟨e_59.From,y_56⟩:Window)))) 10 rfl (bI (by simp)) (bQ (v':=(gV n_27 2 (s_24.1.set (0+((w64 ((s_24.1.length:Int)-1))).toNat) (⟨e_59.From,y_56⟩:Window)))) 83 rfl (bI (by simp)) (aj (aS (aa (ae (vI s_24.2) wz rfl (ae (vI (w64 (s_24.2+1))) wz rfl (ae (vI (w64 (s_24.2+1))) wz rfl (aj ?_)))))))))
        obtain rfl:=ah hc_28
        exact aO (k_19,((s_24.1.set (0+((w64 ((s_24.1.length:Int)-1))).toNat) (⟨e_59.From,y_56⟩:Window)),(w64 (s_24.2+1))),n_27) hL_29 (ls_ _) rfl (aK rfl)
       ·refine aA rfl hc_55 (ax (bN (ae (gV n_27 2 s_24.1) wz rfl (ae (vL eI r_17) wz rfl (ae (vI s_24.2) wz rfl (ae (vI (w64 (s_24.2-1))) wz rfl ?_))))))
        obtain ⟨y_61,hy_62,hc_28⟩:=bind_some hc_28
        refine dL iE rfl rfl hy_62 rfl wz (bz sz3 ag3 rfl (vI y_61) rfl wz (ae (vL eI r_17) wz rfl (ae (vI s_24.2) wz rfl ?_)))
        obtain ⟨y_63,hy_64,hc_28⟩:=bind_some hc_28
        refine dL iE rfl rfl hy_64 rfl wz (bz sz3 ag3 rfl (vI y_63) rfl wz (ae (.d (.agg (Window.enc (⟨y_61,y_63⟩:Window)))) wz (by kernel_rfl) (dW (([(⟨y_61,y_63⟩:Window)]:List Window).map Window.enc) qQ LY rfl rfl rfl rfl rfl wz ?_)))
        obtain ⟨a_65,hz_66,hc_28⟩:=bind_some hc_28
        refine mq 12 (.inr (by kernel_rfl)) (λ_ _ ag=>trivial) (i:=3) Dn Dn eP z33 rfl (by decide) L9 (by decide) (λ_=>rfl) rfl rfl rfl hz_66 wz (λn_67=>ae (gV n_67 2 a_65) wz rfl (aj (aa (ae (vI s_24.2) wz rfl (ae (vI (w64 (s_24.2+1))) wz rfl (ae (vI (w64 (s_24.2+1))) wz rfl (aj ?_)))))))
        obtain rfl:=ah hc_28
        exact aO (k_19,(a_65,(w64 (s_24.2+1))),n_67) hL_29 (ls_ _) rfl (aK rfl)
   ·refine aA rfl hc_32 (aS ?_)
    obtain rfl:=ah hc_28
    obtain rfl:=ah hL_29
    exact aU ((s_24.1,s_24.2),n_27) rfl rfl (aK rfl)
 ·rintro ⟨s_24,n_27⟩ ho_ sl_ H_ hp_ hq_
  subst ho_
  refine aN _ hp_ hq_ (af (aa (ae (gV n_27 2 s_24.1) wz rfl (ae (gV n_27 2 s_24.1) wz rfl (aj (gX 3 rfl (dY 8 3 rfl rfl (dY 10 3 rfl rfl (dY 104 3 rfl rfl ?_)))))))))
  obtain rfl:=ah hF
  exact aC (bv (.inr rfl) [(vL Window.enc s_24.1)] ⟨rfl,trivial⟩ rfl rfl rfl)
theorem BN {l_1:(List Entry)} {wv_2:Window} {r:(List Pair)} (hF:nu l_1 wv_2=some r) :
  FnM Tryz.prog 19 [(vL Entry.enc l_1),(.d (.agg (Window.enc wv_2)))] [] (vL Pair.enc r) []:=by
 refine FnM.of_wH ⟨Tryz.prog,82,[],[]⟩ rfl Tryz.func19 rfl rfl (lb_ rfl) (by kernel_rfl) ?_
 unfold nu at hF
 refine af (aa (dZ 0 (.inl rfl) [(vI wv_2.From),(vI wv_2.To)] rfl rfl wz (λn_3=>ae .nil wz rfl (aj (af (aa (ae .nil wz rfl (aj (af (af (aa (ae (vL Entry.enc l_1) wz rfl (bX qb rfl wz (ae (vI 0) wz rfl (aj (lq (λn_10 => ?_)))))))))))))))))
 obtain ⟨o_15,hj_16,hF⟩:=bind_some hF
 obtain ⟨hn_8,hj_16⟩:=bn hj_16
 refine aG (β:=((List Pair))×Nm) (λp=>(λ(s_9:List Pair) (n_12:Nm)=>([(5,(gV n_12 2 s_9))]:SL_)) p.1 p.2) (λp=>(λ(s_9:List Pair) (n_12:Nm)=>([(n_3,some (.cells 2 [(vI wv_2.From),(vI wv_2.To)])),(n_12,gB 2 Pair.enc s_9)]:Hp)) p.1 p.2) (λp=>o_15 = .go p.1) ?_ ?_
 ·refine aD (aX (β:=Nat×(List Entry)×((List Pair))×Nm) (λp=>(λ(k_4:Nat) (l_5:List Entry) (s_9:List Pair) (n_12:Nm)=>([(0,(vL Entry.enc l_1)),(3,(.ref n_3 0 0)),(5,(gV n_12 2 s_9)),(15,(vL Entry.enc l_1)),(16,(vI (l_1.length:Int))),(17,(vI (k_4:Int)))]:SL_)) p.1 p.2.1 p.2.2.1 p.2.2.2) (λp=>(λ(k_4:Nat) (l_5:List Entry) (s_9:List Pair) (n_12:Nm)=>([(n_3,some (.cells 2 [(vI wv_2.From),(vI wv_2.To)])),(n_12,gB 2 Pair.enc s_9)]:Hp)) p.1 p.2.1 p.2.2.1 p.2.2.2) (λp=>dG (λk x s=>j3 l_1 wv_2 k x s) p.2.1 p.1 p.2.2.1=some o_15/\(l_1).drop p.1=p.2.1) (λp=>p.2.1.length) (0,l_1,([]:List Pair),n_10) ⟨hj_16,rfl⟩ rfl (aK rfl) ?_)
  rintro ⟨k_4,l_5,s_9,n_12⟩ ⟨hL_14,hD_7⟩
  dsimp only at hL_14 hD_7
  cases l_5 with
  | nil =>
   obtain rfl:=ah hL_14
   refine af (aa (ae (vB (decide ((k_4:Int)<(l_1.length:Int)))) wz rfl (aj ?_)))
   refine af (aA rfl (drop_nil hD_7) (aS ?_))
   exact aU (s_9,n_12) rfl rfl (aK rfl)
  | cons x_6 l_5 =>
   obtain ⟨c_,hc_13,hL_14⟩:=bind_some hL_14
   refine af (aa (ae (vB (decide ((k_4:Int)<(l_1.length:Int)))) wz rfl (aj ?_)))
   refine af (aB rfl (bE hD_7) (ax ?_))
   unfold j3 at hc_13
   refine af (aD (af (aa (ae (vI (k_4:Int)) wz rfl (dL mE rfl rfl (bL hD_7) rfl wz (bz gK jR rfl (.d (.agg (Entry.enc x_6))) rfl wz (bR 0 (.inl rfl) z38 rfl wz (λn_17=>ae (vI (k_4:Int)) wz rfl (eu 0 il ft 2 gK rfl rfl [(vS x_6.Key),(vS x_6.Item),(vI x_6.Version),(vI x_6.First),(vI x_6.Last),(vI x_6.Every),(vI x_6.Days),(vL eI x_6.Except),(vI x_6.From),(vI x_6.To),(vI x_6.Prio),(vL eS x_6.Tags),(vB x_6.Gone)] rfl wz (aj (af (aa (ae (vL Entry.enc l_1) wz rfl (ae (vI (k_4:Int)) wz rfl (ae (vI (w64 ((k_4:Int)+1))) wz rfl ?_)))))))))))))))
   obtain ⟨y_18,hy_19,hc_13⟩:=bind_some hc_13
   refine AV qb gK (λ_=>rfl) rfl rfl hy_19 wz (bX qb rfl wz (ae (vI 0) wz rfl (aj ?_)))
   obtain ⟨o_30,hj_31,hc_13⟩:=bind_some hc_13
   obtain ⟨hn_24,hj_31⟩:=bn hj_31
   refine aG (β:=((List Pair))×Nm) (λp=>(λ(s_25:List Pair) (n_27:Nm)=>([(0,(vL Entry.enc l_1)),(3,(.ref n_3 0 0)),(5,(gV n_27 2 s_25)),(15,(vL Entry.enc l_1)),(16,(vI (l_1.length:Int))),(17,(vI (k_4:Int)))]:SL_)) p.1 p.2) (λp=>(λ(s_25:List Pair) (n_27:Nm)=>([(n_3,some (.cells 2 [(vI wv_2.From),(vI wv_2.To)])),(n_27,gB 2 Pair.enc s_25),(n_17,some (.cells 13 [(vS x_6.Key),(vS x_6.Item),(vI x_6.Version),(vI x_6.First),(vI x_6.Last),(vI x_6.Every),(vI x_6.Days),(vL eI x_6.Except),(vI x_6.From),(vI x_6.To),(vI x_6.Prio),(vL eS x_6.Tags),(vB x_6.Gone)]))]:Hp)) p.1 p.2) (λp=>o_30 = .go p.1) ?_ ?_
   ·refine aD (aX (β:=Nat×(List Entry)×((List Pair))×Nm) (λp=>(λ(k_20:Nat) (l_21:List Entry) (s_25:List Pair) (n_27:Nm)=>([(0,(vL Entry.enc l_1)),(3,(.ref n_3 0 0)),(5,(gV n_27 2 s_25)),(7,(.ref n_17 0 0)),(15,(vL Entry.enc l_1)),(16,(vI (l_1.length:Int))),(17,(vI (k_4:Int))),(25,(vL Entry.enc y_18)),(26,(vI (y_18.length:Int))),(27,(vI (k_20:Int)))]:SL_)) p.1 p.2.1 p.2.2.1 p.2.2.2) (λp=>(λ(k_20:Nat) (l_21:List Entry) (s_25:List Pair) (n_27:Nm)=>([(n_3,some (.cells 2 [(vI wv_2.From),(vI wv_2.To)])),(n_27,gB 2 Pair.enc s_25),(n_17,some (.cells 13 [(vS x_6.Key),(vS x_6.Item),(vI x_6.Version),(vI x_6.First),(vI x_6.Last),(vI x_6.Every),(vI x_6.Days),(vL eI x_6.Except),(vI x_6.From),(vI x_6.To),(vI x_6.Prio),(vL eS x_6.Tags),(vB x_6.Gone)]))]:Hp)) p.1 p.2.1 p.2.2.1 p.2.2.2) (λp=>dG (λk x s=>jW x_6 wv_2 k x s) p.2.1 p.1 p.2.2.1=some o_30/\(y_18).drop p.1=p.2.1) (λp=>p.2.1.length) (0,y_18,s_9,n_12) ⟨hj_31,rfl⟩ rfl (aK rfl) ?_)
    rintro ⟨k_20,l_21,s_25,n_27⟩ ⟨hL_29,hD_23⟩
    dsimp only at hL_29 hD_23
    cases l_21 with
    | nil =>
     obtain rfl:=ah hL_29
     refine af (aa (ae (vB (decide ((k_20:Int)<(y_18.length:Int)))) wz rfl (aj ?_)))
     refine af (aA rfl (drop_nil hD_23) (aS ?_))
     exact aU (s_25,n_27) rfl rfl (aK rfl)
    | cons x_22 l_21 =>
     obtain ⟨c_,hc_28,hL_29⟩:=bind_some hL_29
     refine af (aa (ae (vB (decide ((k_20:Int)<(y_18.length:Int)))) wz rfl (aj ?_)))
     refine af (aB rfl (bE hD_23) (ax ?_))
     unfold jW at hc_28
     refine af (aD (af (aa (dL mE rfl rfl (bL hD_23) rfl wz (bz gK jR rfl (.d (.agg (Entry.enc x_22))) rfl wz (bR 0 (.inl rfl) z38 rfl wz (λn_32=>eu 0 il ft 3 gK rfl rfl [(vS x_22.Key),(vS x_22.Item),(vI x_22.Version),(vI x_22.First),(vI x_22.Last),(vI x_22.Every),(vI x_22.Days),(vL eI x_22.Except),(vI x_22.From),(vI x_22.To),(vI x_22.Prio),(vL eS x_22.Tags),(vB x_22.Gone)] rfl wz (aj (af (aa (ae (vB false) wz rfl (aj (af (af (aa (ay 0 2 il ft gK jR rfl rfl (.d (.agg (Entry.enc x_6))) rfl wz (ay 0 0 il ft eP iO rfl rfl (.d (.agg (Window.enc wv_2))) rfl wz ?_)))))))))))))))))
     obtain ⟨r_33,hr_34,hc_28⟩:=bind_some hc_28
     refine aF (qB hr_34) rfl hb47 rfl rfl rfl rfl wz (bX zg rfl wz (ae (vI 0) wz rfl (aj ?_)))
     obtain ⟨o_43,hj_44,hc_28⟩:=bind_some hc_28
     obtain ⟨hn_39,hj_44⟩:=bn hj_44
     refine aG (β:=(Bool)) (λ(s_40:Bool)=>([(0,(vL Entry.enc l_1)),(3,(.ref n_3 0 0)),(5,(gV n_27 2 s_25)),(7,(.ref n_17 0 0)),(9,(.ref n_32 0 0)),(10,(vB s_40)),(15,(vL Entry.enc l_1)),(16,(vI (l_1.length:Int))),(17,(vI (k_4:Int))),(25,(vL Entry.enc y_18)),(26,(vI (y_18.length:Int))),(27,(vI (k_20:Int)))]:SL_)) (λ(s_40:Bool)=>([(n_3,some (.cells 2 [(vI wv_2.From),(vI wv_2.To)])),(n_27,gB 2 Pair.enc s_25),(n_17,some (.cells 13 [(vS x_6.Key),(vS x_6.Item),(vI x_6.Version),(vI x_6.First),(vI x_6.Last),(vI x_6.Every),(vI x_6.Days),(vL eI x_6.Except),(vI x_6.From),(vI x_6.To),(vI x_6.Prio),(vL eS x_6.Tags),(vB x_6.Gone)])),(n_32,some (.cells 13 [(vS x_22.Key),(vS x_22.Item),(vI x_22.Version),(vI x_22.First),(vI x_22.Last),(vI x_22.Every),(vI x_22.Days),(vL eI x_22.Except),(vI x_22.From),(vI x_22.To),(vI x_22.Prio),(vL eS x_22.Tags),(vB x_22.Gone)]))]:Hp)) (λp=>o_43 = .go p) ?_ ?_
     ·refine aD (aX (β:=Nat×(List Window)×(Bool)) (λp=>(λ(k_35:Nat) (l_36:List Window) (s_40:Bool)=>([(0,(vL Entry.enc l_1)),(3,(.ref n_3 0 0)),(5,(gV n_27 2 s_25)),(7,(.ref n_17 0 0)),(9,(.ref n_32 0 0)),(10,(vB s_40)),(15,(vL Entry.enc l_1)),(16,(vI (l_1.length:Int))),(17,(vI (k_4:Int))),(25,(vL Entry.enc y_18)),(26,(vI (y_18.length:Int))),(27,(vI (k_20:Int))),(33,(vL Window.enc r_33)),(34,(vI (r_33.length:Int))),(35,(vI (k_35:Int)))]:SL_)) p.1 p.2.1 p.2.2) (λp=>(λ(k_35:Nat) (l_36:List Window) (s_40:Bool)=>([(n_3,some (.cells 2 [(vI wv_2.From),(vI wv_2.To)])),(n_27,gB 2 Pair.enc s_25),(n_17,some (.cells 13 [(vS x_6.Key),(vS x_6.Item),(vI x_6.Version),(vI x_6.First),(vI x_6.Last),(vI x_6.Every),(vI x_6.Days),(vL eI x_6.Except),(vI x_6.From),(vI x_6.To),(vI x_6.Prio),(vL eS x_6.Tags),(vB x_6.Gone)])),(n_32,some (.cells 13 [(vS x_22.Key),(vS x_22.Item),(vI x_22.Version),(vI x_22.First),(vI x_22.Last),(vI x_22.Every),(vI x_22.Days),(vL eI x_22.Except),(vI x_22.From),(vI x_22.To),(vI x_22.Prio),(vL eS x_22.Tags),(vB x_22.Gone)]))]:Hp)) p.1 p.2.1 p.2.2) (λp=>dG (λk x s=>jV x_22 wv_2 k x s) p.2.1 p.1 p.2.2=some o_43/\(r_33).drop p.1=p.2.1) (λp=>p.2.1.length) (0,r_33,false) ⟨hj_44,rfl⟩ rfl (aK rfl) ?_)
      rintro ⟨k_35,l_36,s_40⟩ ⟨hL_42,hD_38⟩
      dsimp only at hL_42 hD_38
      cases l_36 with
      | nil =>
       obtain rfl:=ah hL_42
       refine af (aa (ae (vB (decide ((k_35:Int)<(r_33.length:Int)))) wz rfl (aj ?_)))
       refine af (aA rfl (drop_nil hD_38) (aS ?_))
       exact aU (s_40) rfl rfl (aK rfl)
      | cons x_37 l_36 =>
       obtain ⟨c_,hc_41,hL_42⟩:=bind_some hL_42
       refine af (aa (ae (vB (decide ((k_35:Int)<(r_33.length:Int)))) wz rfl (aj ?_)))
       refine af (aB rfl (bE hD_38) (ax ?_))
       unfold jV at hc_41
       refine af (aD (af (aa (dL qQ rfl rfl (bL hD_38) rfl wz (bz eP iO rfl (.d (.agg (Window.enc x_37))) rfl wz (bR 0 (.inl rfl) z33 rfl wz (λn_45=>eu 0 il ft 4 eP rfl rfl [(vI x_37.From),(vI x_37.To)] rfl wz (aj (af (aa (ay 0 3 il ft gK jR rfl rfl (.d (.agg (Entry.enc x_22))) rfl wz (ay 0 0 il ft eP iO rfl rfl (.d (.agg (Window.enc wv_2))) rfl wz ?_))))))))))))
       obtain ⟨r_46,hr_47,hc_41⟩:=bind_some hc_41
       refine aF (qB hr_47) rfl hb47 rfl rfl rfl rfl wz (bX zg rfl wz (ae (vI 0) wz rfl (aj ?_)))
       obtain ⟨o_56,hj_57,hc_41⟩:=bind_some hc_41
       obtain ⟨hn_52,hj_57⟩:=bn hj_57
       refine aG (β:=(Bool)) (λ(s_53:Bool)=>([(0,(vL Entry.enc l_1)),(3,(.ref n_3 0 0)),(5,(gV n_27 2 s_25)),(7,(.ref n_17 0 0)),(9,(.ref n_32 0 0)),(10,(vB s_53)),(15,(vL Entry.enc l_1)),(16,(vI (l_1.length:Int))),(17,(vI (k_4:Int))),(25,(vL Entry.enc y_18)),(26,(vI (y_18.length:Int))),(27,(vI (k_20:Int))),(33,(vL Window.enc r_33)),(34,(vI (r_33.length:Int))),(35,(vI (k_35:Int)))]:SL_)) (λ(s_53:Bool)=>([(n_3,some (.cells 2 [(vI wv_2.From),(vI wv_2.To)])),(n_27,gB 2 Pair.enc s_25),(n_17,some (.cells 13 [(vS x_6.Key),(vS x_6.Item),(vI x_6.Version),(vI x_6.First),(vI x_6.Last),(vI x_6.Every),(vI x_6.Days),(vL eI x_6.Except),(vI x_6.From),(vI x_6.To),(vI x_6.Prio),(vL eS x_6.Tags),(vB x_6.Gone)])),(n_32,some (.cells 13 [(vS x_22.Key),(vS x_22.Item),(vI x_22.Version),(vI x_22.First),(vI x_22.Last),(vI x_22.Every),(vI x_22.Days),(vL eI x_22.Except),(vI x_22.From),(vI x_22.To),(vI x_22.Prio),(vL eS x_22.Tags),(vB x_22.Gone)])),(n_45,some (.cells 2 [(vI x_37.From),(vI x_37.To)]))]:Hp)) (λp=>o_56 = .go p) ?_ ?_
       ·refine aD (aX (β:=Nat×(List Window)×(Bool)) (λp=>(λ(k_48:Nat) (l_49:List Window) (s_53:Bool)=>([(0,(vL Entry.enc l_1)),(3,(.ref n_3 0 0)),(5,(gV n_27 2 s_25)),(7,(.ref n_17 0 0)),(9,(.ref n_32 0 0)),(10,(vB s_53)),(12,(.ref n_45 0 0)),(15,(vL Entry.enc l_1)),(16,(vI (l_1.length:Int))),(17,(vI (k_4:Int))),(25,(vL Entry.enc y_18)),(26,(vI (y_18.length:Int))),(27,(vI (k_20:Int))),(33,(vL Window.enc r_33)),(34,(vI (r_33.length:Int))),(35,(vI (k_35:Int))),(41,(vL Window.enc r_46)),(42,(vI (r_46.length:Int))),(43,(vI (k_48:Int)))]:SL_)) p.1 p.2.1 p.2.2) (λp=>(λ(k_48:Nat) (l_49:List Window) (s_53:Bool)=>([(n_3,some (.cells 2 [(vI wv_2.From),(vI wv_2.To)])),(n_27,gB 2 Pair.enc s_25),(n_17,some (.cells 13 [(vS x_6.Key),(vS x_6.Item),(vI x_6.Version),(vI x_6.First),(vI x_6.Last),(vI x_6.Every),(vI x_6.Days),(vL eI x_6.Except),(vI x_6.From),(vI x_6.To),(vI x_6.Prio),(vL eS x_6.Tags),(vB x_6.Gone)])),(n_32,some (.cells 13 [(vS x_22.Key),(vS x_22.Item),(vI x_22.Version),(vI x_22.First),(vI x_22.Last),(vI x_22.Every),(vI x_22.Days),(vL eI x_22.Except),(vI x_22.From),(vI x_22.To),(vI x_22.Prio),(vL eS x_22.Tags),(vB x_22.Gone)])),(n_45,some (.cells 2 [(vI x_37.From),(vI x_37.To)]))]:Hp)) p.1 p.2.1 p.2.2) (λp=>dG (λk x s=>jU x_37 k x s) p.2.1 p.1 p.2.2=some o_56/\(r_46).drop p.1=p.2.1) (λp=>p.2.1.length) (0,r_46,s_40) ⟨hj_57,rfl⟩ rfl (aK rfl) ?_)
        rintro ⟨k_48,l_49,s_53⟩ ⟨hL_55,hD_51⟩
        dsimp only at hL_55 hD_51
        cases l_49 with
        | nil =>
         obtain rfl:=ah hL_55
         refine af (aa (ae (vB (decide ((k_48:Int)<(r_46.length:Int)))) wz rfl (aj ?_)))
         refine af (aA rfl (drop_nil hD_51) (aS ?_))
         exact aU (s_53) rfl rfl (aK rfl)
        | cons x_50 l_49 =>
         obtain ⟨c_,hc_54,hL_55⟩:=bind_some hL_55
         refine af (aa (ae (vB (decide ((k_48:Int)<(r_46.length:Int)))) wz rfl (aj ?_)))
         refine af (aB rfl (bE hD_51) (ax ?_))
         unfold jU at hc_54
         refine af (aD (af (aa (dL qQ rfl rfl (bL hD_51) rfl wz (bz eP iO rfl (.d (.agg (Window.enc x_50))) rfl wz (bR 0 (.inl rfl) z33 rfl wz (λn_58=>eu 0 il ft 5 eP rfl rfl [(vI x_50.From),(vI x_50.To)] rfl wz (aj ?_))))))))
         obtain ⟨v_59,h_60,hc_54⟩:=bind_some hc_54
         refine aG (β:=Unit) (λ_=>([(0,(vL Entry.enc l_1)),(3,(.ref n_3 0 0)),(5,(gV n_27 2 s_25)),(7,(.ref n_17 0 0)),(9,(.ref n_32 0 0)),(10,(vB v_59)),(12,(.ref n_45 0 0)),(15,(vL Entry.enc l_1)),(16,(vI (l_1.length:Int))),(17,(vI (k_4:Int))),(25,(vL Entry.enc y_18)),(26,(vI (y_18.length:Int))),(27,(vI (k_20:Int))),(33,(vL Window.enc r_33)),(34,(vI (r_33.length:Int))),(35,(vI (k_35:Int))),(41,(vL Window.enc r_46)),(42,(vI (r_46.length:Int))),(43,(vI (k_48:Int)))]:SL_)) (λ_=>([(n_3,some (.cells 2 [(vI wv_2.From),(vI wv_2.To)])),(n_27,gB 2 Pair.enc s_25),(n_17,some (.cells 13 [(vS x_6.Key),(vS x_6.Item),(vI x_6.Version),(vI x_6.First),(vI x_6.Last),(vI x_6.Every),(vI x_6.Days),(vL eI x_6.Except),(vI x_6.From),(vI x_6.To),(vI x_6.Prio),(vL eS x_6.Tags),(vB x_6.Gone)])),(n_32,some (.cells 13 [(vS x_22.Key),(vS x_22.Item),(vI x_22.Version),(vI x_22.First),(vI x_22.Last),(vI x_22.Every),(vI x_22.Days),(vL eI x_22.Except),(vI x_22.From),(vI x_22.To),(vI x_22.Prio),(vL eS x_22.Tags),(vB x_22.Gone)])),(n_45,some (.cells 2 [(vI x_37.From),(vI x_37.To)])),(n_58,some (.cells 2 [(vI x_50.From),(vI x_50.To)]))]:Hp)) (λ_=>True) ?_ ?_
         ·refine aa (ae (vB s_53) wz rfl ?_)
          rcases au h_60 with⟨hc_61,h_60⟩|⟨hc_61,h_60⟩
          ·refine aH rfl hc_61 wz (ak wa (ak wa (ak wa (ak wa (ak wa (ak wa (ak wa (ak wa (ak wa (ak wa (ak wa (ae (vB true) wz rfl (ae (vB true) wz rfl (aj ?_))))))))))))))
           obtain rfl:=ah h_60
           exact cu
          ·refine aH rfl hc_61 wz (aJ fw rfl 0 rfl wa (ay 0 4 il ft sz3 ag3 rfl rfl (vI x_37.From) rfl wa (aJ fw rfl 0 rfl wa (ay 0 5 il ft sz3 ag3 rfl rfl (vI x_50.From) rfl wa (mJ (vI (jw x_37.From x_50.From)) rfl (.inr rfl) wa (aJ dX rfl 1 rfl wa (ay 0 4 il ft sz3 ag3 rfl rfl (vI x_37.To) rfl wa (aJ dX rfl 1 rfl wa (ay 0 5 il ft sz3 ag3 rfl rfl (vI x_50.To) rfl wa (mJ (vI (jB x_37.To x_50.To)) rfl (.inl rfl) wa (ae (vB (decide ((jw x_37.From x_50.From)<(jB x_37.To x_50.To)))) wa rfl (ae (vB (decide ((jw x_37.From x_50.From)<(jB x_37.To x_50.To)))) wz rfl (ae (vB (decide ((jw x_37.From x_50.From)<(jB x_37.To x_50.To)))) wz rfl (aj ?_))))))))))))))
           obtain rfl:=ah h_60
           exact cu
         ·rintro ⟨⟩ _ sl_ H_ hp_ hq_
          refine aN _ hp_ hq_ (aa (gm (bH hD_51 hn_52) wz rfl (ae (vI ((k_48+1:Nat):Int)) wz rfl (aj ?_))))
          obtain rfl:=ah hc_54
          exact aO (k_48+1,l_49,v_59) ⟨hL_55,aP hD_51⟩ (ls_ _) rfl (aK rfl)
       ·rintro s_53 ho_ sl_ H_ hp_ hq_
        subst ho_
        refine aN _ hp_ hq_ (aa (gm (bH hD_38 hn_39) wz rfl (ae (vI ((k_35+1:Nat):Int)) wz rfl (aj ?_))))
        obtain rfl:=ah hc_41
        exact aO (k_35+1,l_36,s_53) ⟨hL_42,aP hD_38⟩ (ls_ _) rfl (aK rfl)
     ·rintro s_40 ho_ sl_ H_ hp_ hq_
      subst ho_
      refine aN _ hp_ hq_ (af ?_)
      obtain ⟨v_62,h_63,hc_28⟩:=bind_some hc_28
      refine aG (β:=Unit) (λ_=>([(0,(vL Entry.enc l_1)),(3,(.ref n_3 0 0)),(5,(gV n_27 2 s_25)),(7,(.ref n_17 0 0)),(9,(.ref n_32 0 0)),(15,(vL Entry.enc l_1)),(16,(vI (l_1.length:Int))),(17,(vI (k_4:Int))),(25,(vL Entry.enc y_18)),(26,(vI (y_18.length:Int))),(27,(vI (k_20:Int))),(70,(vB v_62))]:SL_)) (λ_=>([(n_3,some (.cells 2 [(vI wv_2.From),(vI wv_2.To)])),(n_27,gB 2 Pair.enc s_25),(n_17,some (.cells 13 [(vS x_6.Key),(vS x_6.Item),(vI x_6.Version),(vI x_6.First),(vI x_6.Last),(vI x_6.Every),(vI x_6.Days),(vL eI x_6.Except),(vI x_6.From),(vI x_6.To),(vI x_6.Prio),(vL eS x_6.Tags),(vB x_6.Gone)])),(n_32,some (.cells 13 [(vS x_22.Key),(vS x_22.Item),(vI x_22.Version),(vI x_22.First),(vI x_22.Last),(vI x_22.Every),(vI x_22.Days),(vL eI x_22.Except),(vI x_22.From),(vI x_22.To),(vI x_22.Prio),(vL eS x_22.Tags),(vB x_22.Gone)]))]:Hp)) (λ_=>True) ?_ ?_
      ·refine aa (ae (vB s_40) wz rfl ?_)
       rcases au h_63 with⟨hc_64,h_63⟩|⟨hc_64,h_63⟩
       ·refine aH rfl hc_64 wz (aJ mQ rfl 10 rfl wa (ay 0 2 il ft sz3 ag3 rfl rfl (vI x_6.Prio) rfl wa (aJ mQ rfl 10 rfl wa (ay 0 3 il ft sz3 ag3 rfl rfl (vI x_22.Prio) rfl wa (ae (vB (x_6.Prio==x_22.Prio)) wa rfl (ae (vB (x_6.Prio==x_22.Prio)) wz rfl (aj ?_)))))))
        obtain rfl:=ah h_63
        exact cu
       ·refine aH rfl hc_64 wz (ak wa (ak wa (ak wa (ak wa (ak wa (ae (vB false) wz rfl (aj ?_)))))))
        obtain rfl:=ah h_63
        exact cu
      ·rintro ⟨⟩ _ sl_ H_ hp_ hq_
       refine aN _ hp_ hq_ ?_
       obtain ⟨v_65,h_66,hc_28⟩:=bind_some hc_28
       refine aG (β:=Nm) (λ(n_67:Nm)=>([(0,(vL Entry.enc l_1)),(3,(.ref n_3 0 0)),(5,(gV n_67 2 v_65)),(7,(.ref n_17 0 0)),(15,(vL Entry.enc l_1)),(16,(vI (l_1.length:Int))),(17,(vI (k_4:Int))),(25,(vL Entry.enc y_18)),(26,(vI (y_18.length:Int))),(27,(vI (k_20:Int)))]:SL_)) (λ(n_67:Nm)=>([(n_3,some (.cells 2 [(vI wv_2.From),(vI wv_2.To)])),(n_67,gB 2 Pair.enc v_65),(n_17,some (.cells 13 [(vS x_6.Key),(vS x_6.Item),(vI x_6.Version),(vI x_6.First),(vI x_6.Last),(vI x_6.Every),(vI x_6.Days),(vL eI x_6.Except),(vI x_6.From),(vI x_6.To),(vI x_6.Prio),(vL eS x_6.Tags),(vB x_6.Gone)])),(n_32,some (.cells 13 [(vS x_22.Key),(vS x_22.Item),(vI x_22.Version),(vI x_22.First),(vI x_22.Last),(vI x_22.Every),(vI x_22.Days),(vL eI x_22.Except),(vI x_22.From),(vI x_22.To),(vI x_22.Prio),(vL eS x_22.Tags),(vB x_22.Gone)]))]:Hp)) (λ_=>True) ?_ ?_
       ·rcases au h_66 with⟨hc_68,h_66⟩|⟨hc_68,h_66⟩
        ·refine aB rfl hc_68 (aa (ae (gV n_27 2 s_25) wz rfl (aJ j5 rfl 0 rfl wz (ay 0 2 il ft sz9 ag9 rfl rfl (vS x_6.Key) rfl wz (aJ j5 rfl 0 rfl wz (ay 0 3 il ft sz9 ag9 rfl rfl (vS x_22.Key) rfl wz (ae (.d (.agg (Pair.enc (⟨x_6.Key,x_22.Key⟩:Pair)))) wz (by kernel_rfl) (dW (([(⟨x_6.Key,x_22.Key⟩:Pair)]:List Pair).map Pair.enc) es46 ez46 rfl rfl rfl rfl rfl wz ?_))))))))
         obtain ⟨a_69,hz_70,h_66⟩:=bind_some h_66
         refine mq 0 il ft (i:=1) el46 el46 sz58 z58 rfl (by decide) by58 (by decide) (λ_=>rfl) rfl rfl rfl hz_70 wz (λn_71=>ae (gV n_71 2 a_69) wz rfl (aj ?_))
         obtain rfl:=ah h_66
         exact aU n_71 trivial rfl (aK rfl)
        ·refine aA rfl hc_68 (ax ?_)
         obtain rfl:=ah h_66
         exact aU n_27 trivial rfl (aK rfl)
       ·rintro n_67 _ sl_ H_ hp_ hq_
        refine aN _ hp_ hq_ (aa (gm (bH hD_23 hn_24) wz rfl (ae (vI ((k_20+1:Nat):Int)) wz rfl (aj ?_))))
        obtain rfl:=ah hc_28
        exact aO (k_20+1,l_21,v_65,n_67) ⟨hL_29,aP hD_23⟩ (ls_ _) rfl (aK rfl)
   ·rintro ⟨s_25,n_27⟩ ho_ sl_ H_ hp_ hq_
    subst ho_
    refine aN _ hp_ hq_ (aa (gm (bH hD_7 hn_8) wz rfl (ae (vI ((k_4+1:Nat):Int)) wz rfl (aj ?_))))
    obtain rfl:=ah hc_13
    exact aO (k_4+1,l_5,s_25,n_27) ⟨hL_14,aP hD_7⟩ (ls_ _) rfl (aK rfl)
 ·rintro ⟨s_9,n_12⟩ ho_ sl_ H_ hp_ hq_
  subst ho_
  refine aN _ hp_ hq_ (af (aa (ae (gV n_12 2 s_9) wz rfl (ae (gV n_12 2 s_9) wz rfl (aj (gX 1 rfl (dY 4 1 rfl rfl (dY 5 1 rfl rfl (dY 81 1 rfl rfl ?_)))))))))
  obtain rfl:=ah hF
  exact aC (bv (.inr rfl) [(vL Pair.enc s_9)] ⟨rfl,trivial⟩ rfl rfl rfl)
theorem lV {s1_1:(List Window)} {s2_2:(List Window)} {r:Bool} (hF:dE s1_1 s2_2=some r) :
  FnM Tryz.prog 20 [(vL Window.enc s1_1),(vL Window.enc s2_2)] [] (vB r) []:=by
 refine FnM.of_wH ⟨Tryz.prog,26,[],[]⟩ rfl Tryz.func20 rfl rfl (lb_ rfl) (by kernel_rfl) ?_
 unfold dE at hF
 refine af (aa (ae (vB false) wz rfl (aj (af (af (aa (ae (vL Window.enc s1_1) wz rfl (bX zg rfl wz (ae (vL Window.enc s2_2) wz rfl (bX zg rfl wz (ae (vB ((s1_1.length:Int) != (s2_2.length:Int))) wz rfl (aj ?_))))))))))))
 rcases au hF with⟨hc_3,hF⟩|⟨hc_3,hF⟩
 ·refine aB rfl hc_3 (af (aa (ae (vB false) wz rfl (aj ?_))))
  obtain rfl:=ah hF
  exact aC (bv (.inr rfl) [(vB false)] ⟨rfl,trivial⟩ rfl rfl rfl)
 ·refine aA rfl hc_3 (ax (af (af (aa (ae (vL Window.enc s1_1) wz rfl (bX zg rfl wz (ae (vI 0) wz rfl (aj ?_))))))))
  obtain ⟨o_12,hj_13,hF⟩:=bind_some hF
  obtain ⟨hn_8,hj_13⟩:=bn hj_13
  refine aG (β:=(Unit)) (λ(s_9:Unit)=>([]:SL_)) (λ(s_9:Unit)=>([]:Hp)) (λp=>o_12 = .go p) ?_ ?_
  ·refine aD (aX (β:=Nat×(List Window)×(Unit)) (λp=>(λ(k_4:Nat) (l_5:List Window) (s_9:Unit)=>([(0,(vL Window.enc s1_1)),(1,(vL Window.enc s2_2)),(12,(vI (s1_1.length:Int))),(13,(vI (k_4:Int)))]:SL_)) p.1 p.2.1 p.2.2) (λp=>(λ(k_4:Nat) (l_5:List Window) (s_9:Unit)=>([]:Hp)) p.1 p.2.1 p.2.2) (λp=>dG (λk x s=>bK s2_2 k x s) p.2.1 p.1 p.2.2=some o_12/\(s1_1).drop p.1=p.2.1) (λp=>p.2.1.length) (0,s1_1,()) ⟨hj_13,rfl⟩ rfl (aK rfl) ?_)
   rintro ⟨k_4,l_5,s_9⟩ ⟨hL_11,hD_7⟩
   dsimp only at hL_11 hD_7
   cases l_5 with
   | nil =>
    obtain rfl:=ah hL_11
    refine af (aa (ae (vB (decide ((k_4:Int)<(s1_1.length:Int)))) wz rfl (aj ?_)))
    refine af (aA rfl (drop_nil hD_7) (aS ?_))
    exact aU (s_9) rfl rfl (aK rfl)
   | cons x_6 l_5 =>
    obtain ⟨c_,hc_10,hL_11⟩:=bind_some hL_11
    refine af (aa (ae (vB (decide ((k_4:Int)<(s1_1.length:Int)))) wz rfl (aj ?_)))
    refine af (aB rfl (bE hD_7) (ax ?_))
    unfold bK at hc_10
    refine af (aD (af (aa (ae (vI (k_4:Int)) wz rfl (ae (vI (k_4:Int)) wz rfl (aj (af (bN (ae (vL Window.enc s1_1) wz rfl (ae (vI (k_4:Int)) wz rfl (dL qQ rfl rfl (bL hD_7) rfl wz (bz eP iO rfl (.d (.agg (Window.enc x_6))) rfl wz (ae (vL Window.enc s2_2) wz rfl (ae (vI (k_4:Int)) wz rfl ?_))))))))))))))
    obtain ⟨y_14,hy_15,hc_10⟩:=bind_some hc_10
    refine dL qQ rfl rfl hy_15 rfl wz (bz eP iO rfl (.d (.agg (Window.enc y_14))) rfl wz (ae (vB (!((x_6.From==y_14.From)&&((x_6.To==y_14.To)&&true)))) wz (by kernel_rfl) (aj ?_)))
    rcases au hc_10 with⟨hc_16,hc_10⟩|⟨hc_16,hc_10⟩
    ·refine aB rfl hc_16 (af (aa (ae (vB false) wz rfl (aj ?_))))
     obtain rfl:=ah hc_10
     obtain rfl:=ah hL_11
     obtain rfl:=ah hF
     exact aC (bv (.inr rfl) [(vB false)] ⟨rfl,trivial⟩ rfl rfl rfl)
    ·refine aA rfl hc_16 (ax (aa (gm (bH hD_7 hn_8) wz rfl (ae (vI ((k_4+1:Nat):Int)) wz rfl (aj ?_)))))
     obtain rfl:=ah hc_10
     exact aO (k_4+1,l_5,()) ⟨hL_11,aP hD_7⟩ (ls_ _) rfl (aK rfl)
  ·rintro s_9 ho_ sl_ H_ hp_ hq_
   subst ho_
   refine aN _ hp_ hq_ (af (aa (ae (vB true) wz rfl (aj ?_))))
   obtain rfl:=ah hF
   exact aC (bv (.inr rfl) [(vB true)] ⟨rfl,trivial⟩ rfl rfl rfl)
theorem nJ {s1_1:(List Pair)} {s2_2:(List Pair)} {r:Bool} (hF:d9 s1_1 s2_2=some r) :
  FnM Tryz.prog 21 [(vL Pair.enc s1_1),(vL Pair.enc s2_2)] [] (vB r) []:=by
 refine FnM.of_wH ⟨Tryz.prog,26,[],[]⟩ rfl Tryz.func21 rfl rfl (lb_ rfl) (by kernel_rfl) ?_
 unfold d9 at hF
 refine af (aa (ae (vB false) wz rfl (aj (af (af (aa (ae (vL Pair.enc s1_1) wz rfl (bX un46 rfl wz (ae (vL Pair.enc s2_2) wz rfl (bX un46 rfl wz (ae (vB ((s1_1.length:Int) != (s2_2.length:Int))) wz rfl (aj ?_))))))))))))
 rcases au hF with⟨hc_3,hF⟩|⟨hc_3,hF⟩
 ·refine aB rfl hc_3 (af (aa (ae (vB false) wz rfl (aj ?_))))
  obtain rfl:=ah hF
  exact aC (bv (.inr rfl) [(vB false)] ⟨rfl,trivial⟩ rfl rfl rfl)
 ·refine aA rfl hc_3 (ax (af (af (aa (ae (vL Pair.enc s1_1) wz rfl (bX un46 rfl wz (ae (vI 0) wz rfl (aj ?_))))))))
  obtain ⟨o_12,hj_13,hF⟩:=bind_some hF
  obtain ⟨hn_8,hj_13⟩:=bn hj_13
  refine aG (β:=(Unit)) (λ(s_9:Unit)=>([]:SL_)) (λ(s_9:Unit)=>([]:Hp)) (λp=>o_12 = .go p) ?_ ?_
  ·refine aD (aX (β:=Nat×(List Pair)×(Unit)) (λp=>(λ(k_4:Nat) (l_5:List Pair) (s_9:Unit)=>([(0,(vL Pair.enc s1_1)),(1,(vL Pair.enc s2_2)),(12,(vI (s1_1.length:Int))),(13,(vI (k_4:Int)))]:SL_)) p.1 p.2.1 p.2.2) (λp=>(λ(k_4:Nat) (l_5:List Pair) (s_9:Unit)=>([]:Hp)) p.1 p.2.1 p.2.2) (λp=>dG (λk x s=>dI s2_2 k x s) p.2.1 p.1 p.2.2=some o_12/\(s1_1).drop p.1=p.2.1) (λp=>p.2.1.length) (0,s1_1,()) ⟨hj_13,rfl⟩ rfl (aK rfl) ?_)
   rintro ⟨k_4,l_5,s_9⟩ ⟨hL_11,hD_7⟩
   dsimp only at hL_11 hD_7
   cases l_5 with
   | nil =>
    obtain rfl:=ah hL_11
    refine af (aa (ae (vB (decide ((k_4:Int)<(s1_1.length:Int)))) wz rfl (aj ?_)))
    refine af (aA rfl (drop_nil hD_7) (aS ?_))
    exact aU (s_9) rfl rfl (aK rfl)
   | cons x_6 l_5 =>
    obtain ⟨c_,hc_10,hL_11⟩:=bind_some hL_11
    refine af (aa (ae (vB (decide ((k_4:Int)<(s1_1.length:Int)))) wz rfl (aj ?_)))
    refine af (aB rfl (bE hD_7) (ax ?_))
    unfold dI at hc_10
    refine af (aD (af (aa (ae (vI (k_4:Int)) wz rfl (ae (vI (k_4:Int)) wz rfl (aj (af (bN (ae (vL Pair.enc s1_1) wz rfl (ae (vI (k_4:Int)) wz rfl (dL es46 rfl rfl (bL hD_7) rfl wz (bz sz58 ag58 rfl (.d (.agg (Pair.enc x_6))) rfl wz (ae (vL Pair.enc s2_2) wz rfl (ae (vI (k_4:Int)) wz rfl ?_))))))))))))))
    obtain ⟨y_14,hy_15,hc_10⟩:=bind_some hc_10
    refine dL es46 rfl rfl hy_15 rfl wz (bz sz58 ag58 rfl (.d (.agg (Pair.enc y_14))) rfl wz (ae (vB (!((x_6.Name.toList==y_14.Name.toList)&&((x_6.Value.toList==y_14.Value.toList)&&true)))) wz (by kernel_rfl) (aj ?_)))
    rcases au hc_10 with⟨hc_16,hc_10⟩|⟨hc_16,hc_10⟩
    ·refine aB rfl hc_16 (af (aa (ae (vB false) wz rfl (aj ?_))))
     obtain rfl:=ah hc_10
     obtain rfl:=ah hL_11
     obtain rfl:=ah hF
     exact aC (bv (.inr rfl) [(vB false)] ⟨rfl,trivial⟩ rfl rfl rfl)
    ·refine aA rfl hc_16 (ax (aa (gm (bH hD_7 hn_8) wz rfl (ae (vI ((k_4+1:Nat):Int)) wz rfl (aj ?_)))))
     obtain rfl:=ah hc_10
     exact aO (k_4+1,l_5,()) ⟨hL_11,aP hD_7⟩ (ls_ _) rfl (aK rfl)
  ·rintro s_9 ho_ sl_ H_ hp_ hq_
   subst ho_
   refine aN _ hp_ hq_ (af (aa (ae (vB true) wz rfl (aj ?_))))
   obtain rfl:=ah hF
   exact aC (bv (.inr rfl) [(vB true)] ⟨rfl,trivial⟩ rfl rfl rfl)
end Go.Proofs.YtnjnggakgeommaaGreat.Law

