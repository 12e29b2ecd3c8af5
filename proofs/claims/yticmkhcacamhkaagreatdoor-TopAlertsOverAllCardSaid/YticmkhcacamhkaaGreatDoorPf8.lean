/-
 The machine computes these plain functions (written by a program of ours).
-/
import Derived.Test.YticmkhcacamhkaaGreatDoorFacts
import Derived.Test.YticmkhcacamhkaaGreatDoorDefs
import Derived.Test.YticmkhcacamhkaaGreatDoorPf7
open Go Go.Eng Go.Proofs
namespace Go.Proofs.YticmkhcacamhkaaGreatDoor.Law
set_option maxRecDepth 100000
set_option linter.unusedVariables false
set_option maxHeartbeats 1000000
theorem Bo {e_1:Entry} {zone_2:Int} {wv_3:Window} {r:(List Window)×Int} (hF:nA e_1 zone_2 wv_3=some r) :
  FnM Tryz.prog 26 [(.d (.agg (Entry.enc e_1))),(vI zone_2),(.d (.agg (Window.enc wv_3)))] [] (.tup [(vL Window.enc r.1),(vI r.2)]) []:=by
 refine FnM.of_wH ⟨Tryz.prog,45,[],[]⟩ rfl Tryz.func26 rfl rfl (lb_ rfl) (by kernel_rfl) ?_
 unfold nA at hF
 refine af (aa (dL 0 (.inl rfl) [(vS e_1.Key),(vS e_1.Item),(vI e_1.Version),(vI e_1.First),(vI e_1.Last),(vI e_1.Every),(vI e_1.Days),(vL eI e_1.Except),(vI e_1.From),(vI e_1.To),(vI e_1.Prio),(vL eS e_1.Tags),(vB e_1.Gone)] rfl rfl wz (λn_4=>dL 0 (.inl rfl) [(vI wv_3.From),(vI wv_3.To)] rfl rfl wz (λn_5=>ae .nil wz rfl (ae (vI 0) wz rfl (aj (af (af (aa (aA 0 0 il ft zi BD rfl rfl (.d (.agg (Entry.enc e_1))) rfl wz (dW (([e_1]:List Entry).map Entry.enc) F3 ez31 rfl rfl rfl rfl rfl wz ?_)))))))))))
 obtain ⟨r_6,hr_7,hF⟩:=bind_some hF
 refine aI (oh hr_7) rfl hb36 rfl rfl rfl rfl wz (ae (vI r_6) wz rfl (aj (af (aa (ae (vI r_6) wz rfl (ae (vB (r_6 != 0)) wz rfl (aj ?_)))))))
 rcases au hF with⟨hc_8,hF⟩|⟨hc_8,hF⟩
 ·refine aC rfl hc_8 (af (aa (ae (vI r_6) wz rfl (ae .nil wz rfl (ae (vI r_6) wz rfl (aj ?_))))))
  obtain rfl:=ah hF
  exact aG (aU (.inr rfl) [.nil,(vI r_6)] ⟨rfl,⟨rfl,trivial⟩⟩ rfl rfl rfl)
 ·refine aB rfl hc_8 (ax (af (af (aa (ae (vI zone_2) wz rfl ?_)))))
  obtain ⟨r_9,hr_10,hF⟩:=bind_some hF
  refine aI (bg hr_10) rfl rA rfl rfl rfl rfl wz (aj ?_)
  rcases au hF with⟨hc_11,hF⟩|⟨hc_11,hF⟩
  ·refine aC rfl hc_11 (af (aa (ae .nil wz rfl (ae (vI 1) wz rfl (aj ?_)))))
   obtain rfl:=ah hF
   exact aG (aU (.inr rfl) [.nil,(vI 1)] ⟨rfl,⟨rfl,trivial⟩⟩ rfl rfl rfl)
  ·refine aB rfl hc_11 (ax (af (af (aa (aA 0 1 il ft lT qI rfl rfl (.d (.agg (Window.enc wv_3))) rfl wz ?_)))))
   obtain ⟨r_12,hr_13,hF⟩:=bind_some hF
   refine aI (oZ hr_13) rfl hb38 rfl rfl rfl rfl wz (ae (vI r_12) wz rfl (aj (af (aa (ae (vI r_12) wz rfl (ae (vB (r_12 != 0)) wz rfl (aj ?_)))))))
   rcases au hF with⟨hc_14,hF⟩|⟨hc_14,hF⟩
   ·refine aC rfl hc_14 (af (aa (ae (vI r_12) wz rfl (ae .nil wz rfl (ae (vI r_12) wz rfl (aj ?_))))))
    obtain rfl:=ah hF
    exact aG (aU (.inr rfl) [.nil,(vI r_12)] ⟨rfl,⟨rfl,trivial⟩⟩ rfl rfl rfl)
   ·refine aB rfl hc_14 (ax (af (aa (aA 0 0 il ft zi BD rfl rfl (.d (.agg (Entry.enc e_1))) rfl wz (ae (vI zone_2) wz rfl (aA 0 1 il ft lT qI rfl rfl (.d (.agg (Window.enc wv_3))) rfl wz ?_))))))
    obtain ⟨r_15,hr_16,hF⟩:=bind_some hF
    refine MM [] (zV hr_16) rfl hb55 rfl (by kernel_rfl) (by kernel_rfl) (by kernel_rfl) (by kernel_rfl) (by kernel_rfl) rfl (by decide) (by kernel_rfl) wz ([(n_4,some (.cells 13 [(vS e_1.Key),(vS e_1.Item),(vI e_1.Version),(vI e_1.First),(vI e_1.Last),(vI e_1.Every),(vI e_1.Days),(vL eI e_1.Except),(vI e_1.From),(vI e_1.To),(vI e_1.Prio),(vL eS e_1.Tags),(vB e_1.Gone)])),(n_5,some (.cells 2 [(vI wv_3.From),(vI wv_3.To)]))]:Hp) (λ_=>by kernel_rfl) (λn_18=>ae (gV n_18 2 r_15) wz rfl (aj (af (af (aa (ae (gV n_18 2 r_15) wz rfl (ym un78 rfl wz (ae (vI 0) wz rfl (aj ?_)))))))))
    obtain ⟨o_27,hj_28,hF⟩:=bind_some hF
    obtain ⟨hn_23,hj_28⟩:=aV hj_28
    refine aD (β:=((List Window))) (λ(s_24:List Window)=>([(10,(gV n_18 2 s_24))]:SL_)) (λ(s_24:List Window)=>([(n_4,some (.cells 13 [(vS e_1.Key),(vS e_1.Item),(vI e_1.Version),(vI e_1.First),(vI e_1.Last),(vI e_1.Every),(vI e_1.Days),(vL eI e_1.Except),(vI e_1.From),(vI e_1.To),(vI e_1.Prio),(vL eS e_1.Tags),(vB e_1.Gone)])),(n_5,some (.cells 2 [(vI wv_3.From),(vI wv_3.To)])),(n_18,gB 2 Window.enc s_24)]:Hp)) (λp=>o_27 = .go p) ?_ ?_
    ·refine ay (aS (β:=Nat×(List Nat)×((List Window))) (λp=>(λ(k_19:Nat) (l_20:List Nat) (s_24:List Window)=>([(5,(.ref n_5 0 0)),(10,(gV n_18 2 s_24)),(30,(gV n_18 2 s_24)),(31,(vI (r_15.length:Int))),(32,(vI (k_19:Int)))]:SL_)) p.1 p.2.1 p.2.2) (λp=>(λ(k_19:Nat) (l_20:List Nat) (s_24:List Window)=>([(n_4,some (.cells 13 [(vS e_1.Key),(vS e_1.Item),(vI e_1.Version),(vI e_1.First),(vI e_1.Last),(vI e_1.Every),(vI e_1.Days),(vL eI e_1.Except),(vI e_1.From),(vI e_1.To),(vI e_1.Prio),(vL eS e_1.Tags),(vB e_1.Gone)])),(n_5,some (.cells 2 [(vI wv_3.From),(vI wv_3.To)])),(n_18,gB 2 Window.enc s_24)]:Hp)) p.1 p.2.1 p.2.2) (λp=>forR (λk x s=>mI wv_3 k x s) p.2.1 p.1 p.2.2=some o_27/\((List.range ((r_15.length:Int)).toNat)).drop p.1=p.2.1) (λp=>p.2.1.length) (0,(List.range ((r_15.length:Int)).toNat),r_15) ⟨hj_28,rfl⟩ rfl (aJ rfl) ?_)
     rintro ⟨k_19,l_20,s_24⟩ ⟨hL_26,hD_22⟩
     dsimp only at hL_26 hD_22
     cases l_20 with
     | nil =>
      obtain rfl:=ah hL_26
      refine af (aa (ae (vB (decide ((k_19:Int)<(r_15.length:Int)))) wz rfl (aj ?_)))
      refine af (aB rfl (yM hD_22) (aP ?_))
      exact aN (s_24) rfl rfl (aJ rfl)
     | cons x_21 l_20 =>
      obtain ⟨c_,hc_25,hL_26⟩:=bind_some hL_26
      refine af (aa (ae (vB (decide ((k_19:Int)<(r_15.length:Int)))) wz rfl (aj ?_)))
      refine af (aC rfl (vT hD_22) (ax ?_))
      unfold mI at hc_25
      refine af (ay (af (aa (ae (vI (k_19:Int)) wz rfl ?_))))
      obtain ⟨_,hi_29,hc_25⟩:=bind_some hc_25
      refine qH MU rfl rfl (ig hi_29) (eX hi_29) wz ?_
      obtain ⟨e_30,hy_31,hc_25⟩:=bind_some hc_25
      refine jr 0 2 il ft lT qI rfl rfl hy_31 (.d (.agg (Window.enc e_30))) rfl wz (cK 0 (.inl rfl) z34 rfl wz (λn_32=>ae (vI (k_19:Int)) wz rfl (eD 0 il ft 3 lT rfl rfl [(vI e_30.From),(vI e_30.To)] rfl wz (aj (aa (ae (gV n_18 2 s_24) wz rfl (ae (vI (k_19:Int)) wz rfl (aA 0 3 il ft lT qI rfl rfl (.d (.agg (Window.enc e_30))) rfl wz (aA 0 1 il ft lT qI rfl rfl (.d (.agg (Window.enc wv_3))) rfl wz ?_)))))))))
      obtain ⟨r_33,hr_34,hc_25⟩:=bind_some hc_25
      refine aI (xw hr_34) rfl hb56 rfl rfl rfl rfl wz ?_
      obtain ⟨_,hi_35,hc_25⟩:=bind_some hc_25
      refine qH MU rfl rfl (ig hi_35) (eX hi_35) wz ?_
      obtain ⟨e_36,hy_37,hc_25⟩:=bind_some hc_25
      refine sU 0 il ft 2 lT rfl rfl hy_37 r_33 rfl wz (dn (v':=(gV n_18 2 (s_24.set (0+((k_19:Int)).toNat) r_33))) 10 rfl (iK (by simp)) (dn (v':=(gV n_18 2 (s_24.set (0+((k_19:Int)).toNat) r_33))) 30 rfl (iK (by simp)) (dn (v':=(gV n_18 2 (s_24.set (0+((k_19:Int)).toNat) r_33))) 37 rfl (iK (by simp)) (aj (aa (fu (yH hD_22 hn_23) wz rfl (ae (vI ((k_19+1:Nat):Int)) wz rfl (aj ?_))))))))
      obtain rfl:=ah hc_25
      exact aO (k_19+1,l_20,(s_24.set (0+((k_19:Int)).toNat) r_33)) ⟨hL_26,aR hD_22⟩ (ls_ _) rfl (aJ rfl)
    ·rintro s_24 ho_ sl_ H_ hp_ hq_
     subst ho_
     refine aL _ hp_ hq_ (af (aa (ae (gV n_18 2 s_24) wz rfl (ae (gV n_18 2 s_24) wz rfl (ae (vI 0) wz rfl (aj (gJ 2 rfl (dJ 6 2 rfl rfl (dJ 10 2 rfl rfl (dJ 44 2 rfl rfl ?_))))))))))
     obtain rfl:=ah hF
     exact aG (aU (.inr rfl) [(vL Window.enc s_24),(vI 0)] ⟨rfl,⟨rfl,trivial⟩⟩ rfl rfl rfl)
theorem y5 {r:Bool} (hF:jM  = some r) :
  FnM Tryz.prog 10 [] [] (vB r) []:=by
 refine FnM.of_wH ⟨Tryz.prog,66,[],[]⟩ rfl Tryz.func10 rfl rfl (lb_ rfl) (by kernel_rfl) ?_
 unfold jM at hF
 refine af (aa (ae (vB false) wz rfl (aj (af (aa (ae (.d (.agg (Rect.enc (⟨0,0,2,2⟩:Rect)))) wz (by kernel_rfl) (ae (.d (.agg (Rect.enc (⟨1,1,2,2⟩:Rect)))) wz (by kernel_rfl) (dW (([(⟨0,0,2,2⟩:Rect),(⟨1,1,2,2⟩:Rect)]:List Rect).map Rect.enc) Iu ez50 rfl rfl rfl rfl rfl wz ?_))))))))
 obtain ⟨r_1,hr_2,hF⟩:=bind_some hF
 refine aI (Ed hr_2) rfl hb23 rfl rfl rfl rfl wz (ae (.tup [(vI r_1.1),(vI r_1.2)]) wz rfl (ae (vI r_1.1) wz rfl (ae (vI r_1.2) wz rfl (ae (vI r_1.1) wz rfl (ae (vI r_1.2) wz rfl (aj (af (aa (ae (.d (.agg (Window.enc (⟨0,100⟩:Window)))) wz (by kernel_rfl) (ae (.agg [(vS (⟨#[97]⟩:ByteArray)),(vS (⟨#[]⟩:ByteArray)),(vI 0),(vI 100),.nil,(vI 10),(vI 0),(vI 0)]) wz (by kernel_rfl) ?_))))))))))
 obtain ⟨r_3,hr_4,hF⟩:=bind_some hF
 refine aI (Fu hr_4) rfl hb24 rfl rfl rfl rfl wz (ae (.tup [(vI r_3.1),(vI r_3.2)]) wz rfl (ae (vI r_3.1) wz rfl (ae (vI r_3.2) wz rfl (ae (vI r_3.1) wz rfl (ae (vI r_3.2) wz rfl (aj (af (aa (ae (.d (.agg (Beat.enc (⟨(⟨#[112]⟩:ByteArray),0,100⟩:Beat)))) wz (by kernel_rfl) (ae (.d (.agg (Beat.enc (⟨(⟨#[112]⟩:ByteArray),1000,1300⟩:Beat)))) wz (by kernel_rfl) (dW (([(⟨(⟨#[112]⟩:ByteArray),0,100⟩:Beat),(⟨(⟨#[112]⟩:ByteArray),1000,1300⟩:Beat)]:List Beat).map Beat.enc) Nz ez77 rfl rfl rfl rfl rfl wz ?_)))))))))))
 obtain ⟨r_5,hr_6,hF⟩:=bind_some hF
 refine aI (Ea hr_6) rfl hb25 rfl rfl rfl rfl wz (ae (.tup [(vI r_5.1),(vI r_5.2)]) wz rfl (ae (vI r_5.1) wz rfl (ae (vI r_5.2) wz rfl (ae (vI r_5.1) wz rfl (ae (vI r_5.2) wz rfl (aj (af (aa (ae (.agg [(vS (⟨#[97]⟩:ByteArray)),(vS (⟨#[98]⟩:ByteArray)),(vI 0),(vI 0),(vI 0),(vI 1),(vI 127),.nil,(vI 1),(vI 2),(vI 0),.nil,(vB false)]) wz (by kernel_rfl) (ae (.d (.agg (Window.enc (⟨0,86400000⟩:Window)))) wz (by kernel_rfl) ?_))))))))))
 obtain ⟨r_7,hr_8,hF⟩:=bind_some hF
 refine aI (Bo hr_8) rfl hb26 rfl rfl rfl rfl wz (ae (.tup [(vL Window.enc r_7.1),(vI r_7.2)]) wz rfl (ae (vL Window.enc r_7.1) wz rfl (ae (vI r_7.2) wz rfl (ae (vL Window.enc r_7.1) wz rfl (ae (vI r_7.2) wz rfl (aj (aL (H0:=([]:Hp)) ([(1,(vI r_1.1)),(2,(vI r_1.2)),(3,(vI r_3.1)),(4,(vI r_3.2)),(5,(vI r_5.1)),(6,(vI r_5.2)),(7,(vL Window.enc r_7.1)),(8,(vI r_7.2))]:SL_) (by kernel_rfl) (uP (by kernel_rfl)) (af ?_))))))))
 obtain ⟨v_9,h_10,hF⟩:=bind_some hF
 refine aD (β:=Unit) (λ_=>([(0,(vB v_9))]:SL_)) (λ_=>([]:Hp)) (λ_=>True) ?_ ?_
 ·refine aa (ae (vI r_1.2) wz rfl (ae (vB (r_1.2==0)) wz rfl ?_))
  rcases au h_10 with⟨hc_11,h_10⟩|⟨hc_11,h_10⟩
  ·refine aF rfl hc_11 wz (ae (vI r_3.2) wa rfl (ae (vB (r_3.2==0)) wa rfl (ae (vB (r_3.2==0)) wz rfl ?_)))
   rcases au h_10 with⟨hc_12,h_10⟩|⟨hc_12,h_10⟩
   ·refine aF rfl hc_12 wz (ae (vI r_5.2) wa rfl (ae (vB (r_5.2==0)) wa rfl (ae (vB (r_5.2==0)) wz rfl ?_)))
    rcases au h_10 with⟨hc_13,h_10⟩|⟨hc_13,h_10⟩
    ·refine aF rfl hc_13 wz (ae (vI r_7.2) wa rfl (ae (vB (r_7.2==0)) wa rfl (ae (vB (r_7.2==0)) wz rfl ?_)))
     rcases au h_10 with⟨hc_14,h_10⟩|⟨hc_14,h_10⟩
     ·refine aF rfl hc_14 wz (ae (vI r_1.1) wa rfl (ae (vB (r_1.1==7)) wa rfl (ae (vB (r_1.1==7)) wz rfl ?_)))
      rcases au h_10 with⟨hc_15,h_10⟩|⟨hc_15,h_10⟩
      ·refine aF rfl hc_15 wz (ae (vI r_3.1) wa rfl (ae (vB (r_3.1==5)) wa rfl (ae (vB (r_3.1==5)) wz rfl ?_)))
       rcases au h_10 with⟨hc_16,h_10⟩|⟨hc_16,h_10⟩
       ·refine aF rfl hc_16 wz (ae (vI r_5.1) wa rfl (ae (vB (r_5.1==500)) wa rfl (ae (vB (r_5.1==500)) wz rfl ?_)))
        rcases au h_10 with⟨hc_17,h_10⟩|⟨hc_17,h_10⟩
        ·refine aF rfl hc_17 wz (ae (vL Window.enc r_7.1) wa rfl (bW un78 rfl wa (ae (vB ((r_7.1.length:Int)==1)) wa rfl (ae (vB ((r_7.1.length:Int)==1)) wz rfl (ae (vB ((r_7.1.length:Int)==1)) wz rfl (aj ?_))))))
         obtain rfl:=ah h_10
         exact cu
        ·refine aF rfl hc_17 wz (ak wa (ak wa (ak wa (ae (vB false) wz rfl (ae (vB false) wz rfl (aj ?_))))))
         obtain rfl:=ah h_10
         exact cu
       ·refine aF rfl hc_16 wz (ak wa (ak wa (ae (vB false) wz rfl (ae (vB false) wz rfl (ak wa (ak wa (ak wa (ae (vB false) wz rfl (ae (vB false) wz rfl (aj ?_))))))))))
        obtain rfl:=ah h_10
        exact cu
      ·refine aF rfl hc_15 wz (ak wa (ak wa (ae (vB false) wz rfl (ae (vB false) wz rfl (ak wa (ak wa (ae (vB false) wz rfl (ae (vB false) wz rfl (ak wa (ak wa (ak wa (ae (vB false) wz rfl (ae (vB false) wz rfl (aj ?_))))))))))))))
       obtain rfl:=ah h_10
       exact cu
     ·refine aF rfl hc_14 wz (ak wa (ak wa (ae (vB false) wz rfl (ae (vB false) wz rfl (ak wa (ak wa (ae (vB false) wz rfl (ae (vB false) wz rfl (ak wa (ak wa (ae (vB false) wz rfl (ae (vB false) wz rfl (ak wa (ak wa (ak wa (ae (vB false) wz rfl (ae (vB false) wz rfl (aj ?_))))))))))))))))))
      obtain rfl:=ah h_10
      exact cu
    ·refine aF rfl hc_13 wz (ak wa (ak wa (ae (vB false) wz rfl (ae (vB false) wz rfl (ak wa (ak wa (ae (vB false) wz rfl (ae (vB false) wz rfl (ak wa (ak wa (ae (vB false) wz rfl (ae (vB false) wz rfl (ak wa (ak wa (ae (vB false) wz rfl (ae (vB false) wz rfl (ak wa (ak wa (ak wa (ae (vB false) wz rfl (ae (vB false) wz rfl (aj ?_))))))))))))))))))))))
     obtain rfl:=ah h_10
     exact cu
   ·refine aF rfl hc_12 wz (ak wa (ak wa (ae (vB false) wz rfl (ae (vB false) wz rfl (ak wa (ak wa (ae (vB false) wz rfl (ae (vB false) wz rfl (ak wa (ak wa (ae (vB false) wz rfl (ae (vB false) wz rfl (ak wa (ak wa (ae (vB false) wz rfl (ae (vB false) wz rfl (ak wa (ak wa (ae (vB false) wz rfl (ae (vB false) wz rfl (ak wa (ak wa (ak wa ?_)))))))))))))))))))))))
    refine ae (vB false) wz rfl (ae (vB false) wz rfl (aj ?_))
    obtain rfl:=ah h_10
    exact cu
  ·refine aF rfl hc_11 wz (ak wa (ak wa (ae (vB false) wz rfl (ae (vB false) wz rfl (ak wa (ak wa (ae (vB false) wz rfl (ae (vB false) wz rfl (ak wa (ak wa (ae (vB false) wz rfl (ae (vB false) wz rfl (ak wa (ak wa (ae (vB false) wz rfl (ae (vB false) wz rfl (ak wa (ak wa (ae (vB false) wz rfl (ae (vB false) wz rfl (ak wa (ak wa (ae (vB false) wz rfl ?_)))))))))))))))))))))))
   refine ae (vB false) wz rfl (ak wa (ak wa (ak wa (ae (vB false) wz rfl (ae (vB false) wz rfl (aj ?_))))))
   obtain rfl:=ah h_10
   exact cu
 ·rintro ⟨⟩ _ sl_ H_ hp_ hq_
  refine aL _ hp_ hq_ ?_
  obtain rfl:=ah hF
  exact aG (aU (.inr rfl) [(vB v_9)] ⟨rfl,trivial⟩ rfl rfl rfl)
theorem r9 {l_1:(List Int)} {r:Bool} (hF:ja l_1=some r) :
  FnM Tryz.prog 3 [(vL eI l_1)] [] (vB r) []:=by
 refine FnM.of_wH ⟨Tryz.prog,97,[],[]⟩ rfl Tryz.func3 rfl rfl (lb_ rfl) (by kernel_rfl) ?_
 unfold ja at hF
 refine af (aa (ae (vB false) wz rfl (aj (af (aa (ae (vL eI l_1) wz rfl (ae (.d (.agg (Stream.enc (⟨l_1,0⟩:Stream)))) wz (by kernel_rfl) (dL 0 (.inl rfl) [(vL eI l_1),(vI 0)] rfl rfl wz (λn_2=>ae (.ref n_2 0 0) wz rfl (aj (af (aa (ae (.ref n_2 0 0) wz rfl ?_)))))))))))))
 obtain ⟨r_3,hr_4,hF⟩:=bind_some hF
 refine bS 0 [0] il ft (uJ hr_4) rfl hb4 rfl (by kernel_rfl) (by kernel_rfl) (by kernel_rfl) (by kernel_rfl) (by kernel_rfl) (by kernel_rfl) (by kernel_rfl) (by decide) (by kernel_rfl) wz (vL Alert.enc r_3.1) (by kernel_rfl) ([(n_2,some (.cells 2 [(vL eI r_3.2.L),(vI r_3.2.f_at)]))]:Hp) (by kernel_rfl) (ae (.ref n_2 0 0) wz rfl ?_)
 obtain ⟨r_6,hr_7,hF⟩:=bind_some hF
 refine bS 0 [0] il ft (dz hr_7) rfl hb5 rfl (by kernel_rfl) (by kernel_rfl) (by kernel_rfl) (by kernel_rfl) (by kernel_rfl) (by kernel_rfl) (by kernel_rfl) (by decide) (by kernel_rfl) wz (vI r_6.1) (by kernel_rfl) ([(n_2,some (.cells 2 [(vL eI r_6.2.L),(vI r_6.2.f_at)]))]:Hp) (by kernel_rfl) (ae (.ref n_2 0 0) wz rfl ?_)
 obtain ⟨r_9,hr_10,hF⟩:=bind_some hF
 refine bS 0 [0] il ft (dz hr_10) rfl hb5 rfl (by kernel_rfl) (by kernel_rfl) (by kernel_rfl) (by kernel_rfl) (by kernel_rfl) (by kernel_rfl) (by kernel_rfl) (by decide) (by kernel_rfl) wz (vI r_9.1) (by kernel_rfl) ([(n_2,some (.cells 2 [(vL eI r_9.2.L),(vI r_9.2.f_at)]))]:Hp) (by kernel_rfl) (ae (.d (.agg (Post.enc (⟨(⟨#[112,97]⟩:ByteArray),r_6.1,r_9.1⟩:Post)))) wz (by kernel_rfl) (ae (.ref n_2 0 0) wz rfl ?_))
 obtain ⟨r_12,hr_13,hF⟩:=bind_some hF
 refine bS 0 [0] il ft (uw hr_13) rfl hb6 rfl (by kernel_rfl) (by kernel_rfl) (by kernel_rfl) (by kernel_rfl) (by kernel_rfl) (by kernel_rfl) (by kernel_rfl) (by decide) (by kernel_rfl) wz (vL Entry.enc r_12.1) (by kernel_rfl) ([(n_2,some (.cells 2 [(vL eI r_12.2.L),(vI r_12.2.f_at)]))]:Hp) (by kernel_rfl) (ae (.ref n_2 0 0) wz rfl ?_)
 obtain ⟨r_15,hr_16,hF⟩:=bind_some hF
 refine bS 0 [0] il ft (dz hr_16) rfl hb5 rfl (by kernel_rfl) (by kernel_rfl) (by kernel_rfl) (by kernel_rfl) (by kernel_rfl) (by kernel_rfl) (by kernel_rfl) (by decide) (by kernel_rfl) wz (vI r_15.1) (by kernel_rfl) ([(n_2,some (.cells 2 [(vL eI r_15.2.L),(vI r_15.2.f_at)]))]:Hp) (by kernel_rfl) (ae (.ref n_2 0 0) wz rfl ?_)
 obtain ⟨r_18,hr_19,hF⟩:=bind_some hF
 refine bS 0 [0] il ft (dz hr_19) rfl hb5 rfl (by kernel_rfl) (by kernel_rfl) (by kernel_rfl) (by kernel_rfl) (by kernel_rfl) (by kernel_rfl) (by kernel_rfl) (by decide) (by kernel_rfl) wz (vI r_18.1) (by kernel_rfl) ([(n_2,some (.cells 2 [(vL eI r_18.2.L),(vI r_18.2.f_at)]))]:Hp) (by kernel_rfl) (ae (.d (.agg (Window.enc (⟨r_15.1,r_18.1⟩:Window)))) wz (by kernel_rfl) (cK 0 (.inl rfl) z30 rfl wz (λn_21=>cK 0 (.inl rfl) z34 rfl wz (λn_22=>ae (vL Alert.enc r_3.1) wz rfl (eD 0 il ft 1 Kb rfl rfl [(vS (⟨#[112,97]⟩:ByteArray)),(vI r_6.1),(vI r_9.1)] rfl wz (ae (vL Entry.enc r_12.1) wz rfl (eD 0 il ft 2 lT rfl rfl [(vI r_15.1),(vI r_18.1)] rfl wz (aj (af (aa (ae (vL Alert.enc r_3.1) wz rfl (aA 0 1 il ft Kb Nu rfl rfl (.d (.agg (Post.enc (⟨(⟨#[112,97]⟩:ByteArray),r_6.1,r_9.1⟩:Post)))) rfl wz (aA 0 2 il ft lT qI rfl rfl (.d (.agg (Window.enc (⟨r_15.1,r_18.1⟩:Window)))) rfl wz ?_)))))))))))))
 obtain ⟨r_23,hr_24,hF⟩:=bind_some hF
 refine aI (BF hr_24) rfl hb7 rfl rfl rfl rfl wz (ae (.tup [(vL Slot_.enc r_23.1),(vI r_23.2)]) wz rfl (ae (vL Slot_.enc r_23.1) wz rfl (ae (vI r_23.2) wz rfl (ae (vL Slot_.enc r_23.1) wz rfl (ae (vI r_23.2) wz rfl (aj (aL (H0:=([(n_2,some (.cells 2 [(vL eI r_18.2.L),(vI r_18.2.f_at)])),(n_21,some (.cells 3 [(vS (⟨#[112,97]⟩:ByteArray)),(vI r_6.1),(vI r_9.1)])),(n_22,some (.cells 2 [(vI r_15.1),(vI r_18.1)]))]:Hp)) ([(3,(.ref n_2 0 0)),(6,(vL Entry.enc r_12.1)),(7,(.ref n_22 0 0)),(8,(vL Slot_.enc r_23.1)),(9,(vI r_23.2))]:SL_) (by kernel_rfl) (uP (by kernel_rfl)) (af (aW (ae (vL Entry.enc r_12.1) wz rfl (ae (.ref n_2 0 0) wz rfl ?_)))))))))))
 obtain ⟨r_25,hr_26,hF⟩:=bind_some hF
 refine bS 2 [0] (.inr (by kernel_rfl)) (λ_ _ ag=>by exact trivial) (uN hr_26) rfl hb9 rfl (by kernel_rfl) (by kernel_rfl) (by kernel_rfl) (by kernel_rfl) (by kernel_rfl) (by kernel_rfl) (by kernel_rfl) (by decide) (by kernel_rfl) wz (.d (.agg (Player.enc r_25.1))) (by kernel_rfl) ([(n_2,some (.cells 2 [(vL eI r_25.2.L),(vI r_25.2.f_at)])),(n_21,some (.cells 3 [(vS (⟨#[112,97]⟩:ByteArray)),(vI r_6.1),(vI r_9.1)])),(n_22,some (.cells 2 [(vI r_15.1),(vI r_18.1)]))]:Hp) (by kernel_rfl) (aA 3 2 (.inr (by kernel_rfl)) (λ_ _ ag=>⟨.inr (.inl (Kj (CJ ag (i:=2) (j:=0) rfl rfl (by decide)))),trivial⟩) lT qI rfl rfl (.d (.agg (Window.enc (⟨r_15.1,r_18.1⟩:Window)))) rfl wz ?_)
 obtain ⟨r_28,hr_29,hF⟩:=bind_some hF
 refine aI (zl hr_29) rfl hb8 rfl rfl rfl rfl wz (ae (.tup [(vL Slot_.enc r_28.1),(vI r_28.2)]) wz rfl (ae (vL Slot_.enc r_28.1) wz rfl (ae (vI r_28.2) wz rfl (ae (vL Slot_.enc r_28.1) wz rfl (ae (vI r_28.2) wz rfl (aj (af (af ?_))))))))
 obtain ⟨v_30,h_31,hF⟩:=bind_some hF
 refine aD (β:=Unit) (λ_=>([(7,(.ref n_22 0 0)),(8,(vL Slot_.enc r_23.1)),(10,(vL Slot_.enc r_28.1)),(54,(vB v_30))]:SL_)) (λ_=>([(n_2,some (.cells 2 [(vL eI r_25.2.L),(vI r_25.2.f_at)])),(n_21,some (.cells 3 [(vS (⟨#[112,97]⟩:ByteArray)),(vI r_6.1),(vI r_9.1)])),(n_22,some (.cells 2 [(vI r_15.1),(vI r_18.1)]))]:Hp)) (λ_=>True) ?_ ?_
 ·refine aa (ae (vI r_23.2) wz rfl (ae (vB (r_23.2 != 0)) wz rfl ?_))
  rcases au h_31 with⟨hc_32,h_31⟩|⟨hc_32,h_31⟩
  ·refine aF rfl hc_32 wz (ak wa (ak wa (ae (vB true) wz rfl (aj ?_))))
   obtain rfl:=ah h_31
   exact cu
  ·refine aF rfl hc_32 wz (ae (vI r_28.2) wa rfl (ae (vB (r_28.2 != 0)) wa rfl (ae (vB (r_28.2 != 0)) wz rfl (aj ?_))))
   obtain rfl:=ah h_31
   exact cu
 ·rintro ⟨⟩ _ sl_ H_ hp_ hq_
  refine aL _ hp_ hq_ ?_
  rcases au hF with⟨hc_33,hF⟩|⟨hc_33,hF⟩
  ·refine aC rfl hc_33 (af (aa (ae (vB false) wz rfl (aj ?_))))
   obtain rfl:=ah hF
   exact aG (aU (.inr rfl) [(vB false)] ⟨rfl,trivial⟩ rfl rfl rfl)
  ·refine aB rfl hc_33 (ax (af (aa (ae (vI 0) wz rfl (aj (af (af (aa (ae (vL Slot_.enc r_23.1) wz rfl (bW un35 rfl wz (ae (vI 0) wz rfl (aj ?_))))))))))))
   obtain ⟨o_42,hj_43,hF⟩:=bind_some hF
   obtain ⟨hn_38,hj_43⟩:=aV hj_43
   refine aD (β:=(Int)) (λ(s_39:Int)=>([(7,(.ref n_22 0 0)),(12,(vI s_39))]:SL_)) (λ(s_39:Int)=>([(n_2,some (.cells 2 [(vL eI r_25.2.L),(vI r_25.2.f_at)])),(n_21,some (.cells 3 [(vS (⟨#[112,97]⟩:ByteArray)),(vI r_6.1),(vI r_9.1)])),(n_22,some (.cells 2 [(vI r_15.1),(vI r_18.1)]))]:Hp)) (λp=>o_42 = .go p) ?_ ?_
   ·refine ay (aS (β:=Nat×(List Slot_)×(Int)) (λp=>(λ(k_34:Nat) (l_35:List Slot_) (s_39:Int)=>([(7,(.ref n_22 0 0)),(10,(vL Slot_.enc r_28.1)),(12,(vI s_39)),(55,(vL Slot_.enc r_23.1)),(56,(vI (r_23.1.length:Int))),(57,(vI (k_34:Int)))]:SL_)) p.1 p.2.1 p.2.2) (λp=>(λ(k_34:Nat) (l_35:List Slot_) (s_39:Int)=>([(n_2,some (.cells 2 [(vL eI r_25.2.L),(vI r_25.2.f_at)])),(n_21,some (.cells 3 [(vS (⟨#[112,97]⟩:ByteArray)),(vI r_6.1),(vI r_9.1)])),(n_22,some (.cells 2 [(vI r_15.1),(vI r_18.1)]))]:Hp)) p.1 p.2.1 p.2.2) (λp=>forR (λk x s=>d9 r_28 k x s) p.2.1 p.1 p.2.2=some o_42/\(r_23.1).drop p.1=p.2.1) (λp=>p.2.1.length) (0,r_23.1,0) ⟨hj_43,rfl⟩ rfl (aJ rfl) ?_)
    rintro ⟨k_34,l_35,s_39⟩ ⟨hL_41,hD_37⟩
    dsimp only at hL_41 hD_37
    cases l_35 with
    | nil =>
     obtain rfl:=ah hL_41
     refine af (aa (ae (vB (decide ((k_34:Int)<(r_23.1.length:Int)))) wz rfl (aj ?_)))
     refine af (aB rfl (drop_nil hD_37) (aP ?_))
     exact aN (s_39) rfl rfl (aJ rfl)
    | cons x_36 l_35 =>
     obtain ⟨c_,hc_40,hL_41⟩:=bind_some hL_41
     refine af (aa (ae (vB (decide ((k_34:Int)<(r_23.1.length:Int)))) wz rfl (aj ?_)))
     refine af (aC rfl (bf hD_37) (ax ?_))
     unfold d9 at hc_40
     refine af (ay (af (aa (dK Jo rfl rfl (bG hD_37) rfl wz (bB Nt ag45 rfl (.d (.agg (Slot_.enc x_36))) rfl wz (cK 0 (.inl rfl) z45 rfl wz (λn_44=>eD 0 il ft 3 Nt rfl rfl [(vI x_36.Time.From),(vI x_36.Time.To),(vS x_36.Entry)] rfl wz (aj (af (aa (ae (vL Slot_.enc r_28.1) wz rfl (bW un35 rfl wz (ae (vI 0) wz rfl (aj ?_))))))))))))))
     obtain ⟨o_53,hj_54,hc_40⟩:=bind_some hc_40
     obtain ⟨hn_49,hj_54⟩:=aV hj_54
     refine aD (β:=(Int)) (λ(s_50:Int)=>([(7,(.ref n_22 0 0)),(10,(vL Slot_.enc r_28.1)),(12,(vI s_50)),(55,(vL Slot_.enc r_23.1)),(56,(vI (r_23.1.length:Int))),(57,(vI (k_34:Int)))]:SL_)) (λ(s_50:Int)=>([(n_2,some (.cells 2 [(vL eI r_25.2.L),(vI r_25.2.f_at)])),(n_21,some (.cells 3 [(vS (⟨#[112,97]⟩:ByteArray)),(vI r_6.1),(vI r_9.1)])),(n_22,some (.cells 2 [(vI r_15.1),(vI r_18.1)])),(n_44,some (.cells 3 [(vI x_36.Time.From),(vI x_36.Time.To),(vS x_36.Entry)]))]:Hp)) (λp=>o_53 = .go p) ?_ ?_
     ·refine ay (aS (β:=Nat×(List Slot_)×(Int)) (λp=>(λ(k_45:Nat) (l_46:List Slot_) (s_50:Int)=>([(7,(.ref n_22 0 0)),(10,(vL Slot_.enc r_28.1)),(12,(vI s_50)),(14,(.ref n_44 0 0)),(55,(vL Slot_.enc r_23.1)),(56,(vI (r_23.1.length:Int))),(57,(vI (k_34:Int))),(61,(vL Slot_.enc r_28.1)),(62,(vI (r_28.1.length:Int))),(63,(vI (k_45:Int)))]:SL_)) p.1 p.2.1 p.2.2) (λp=>(λ(k_45:Nat) (l_46:List Slot_) (s_50:Int)=>([(n_2,some (.cells 2 [(vL eI r_25.2.L),(vI r_25.2.f_at)])),(n_21,some (.cells 3 [(vS (⟨#[112,97]⟩:ByteArray)),(vI r_6.1),(vI r_9.1)])),(n_22,some (.cells 2 [(vI r_15.1),(vI r_18.1)])),(n_44,some (.cells 3 [(vI x_36.Time.From),(vI x_36.Time.To),(vS x_36.Entry)]))]:Hp)) p.1 p.2.1 p.2.2) (λp=>forR (λk x s=>ek x_36 k x s) p.2.1 p.1 p.2.2=some o_53/\(r_28.1).drop p.1=p.2.1) (λp=>p.2.1.length) (0,r_28.1,s_39) ⟨hj_54,rfl⟩ rfl (aJ rfl) ?_)
      rintro ⟨k_45,l_46,s_50⟩ ⟨hL_52,hD_48⟩
      dsimp only at hL_52 hD_48
      cases l_46 with
      | nil =>
       obtain rfl:=ah hL_52
       refine af (aa (ae (vB (decide ((k_45:Int)<(r_28.1.length:Int)))) wz rfl (aj ?_)))
       refine af (aB rfl (drop_nil hD_48) (aP ?_))
       exact aN (s_50) rfl rfl (aJ rfl)
      | cons x_47 l_46 =>
       obtain ⟨c_,hc_51,hL_52⟩:=bind_some hL_52
       refine af (aa (ae (vB (decide ((k_45:Int)<(r_28.1.length:Int)))) wz rfl (aj ?_)))
       refine af (aC rfl (bf hD_48) (ax ?_))
       unfold ek at hc_51
       refine af (ay (af (aa (dK Jo rfl rfl (bG hD_48) rfl wz (bB Nt ag45 rfl (.d (.agg (Slot_.enc x_47))) rfl wz (cK 0 (.inl rfl) z45 rfl wz (λn_55=>eD 0 il ft 4 Nt rfl rfl [(vI x_47.Time.From),(vI x_47.Time.To),(vS x_47.Entry)] rfl wz (aj (aa (ae (vI s_50) wz rfl (aH Ca rfl 0 rfl wz (aH iq rfl 1 rfl wz (aA 0 3 il ft sz3 ag3 rfl rfl (vI x_36.Time.To) rfl wz (aH Ca rfl 0 rfl wz (aH iq rfl 1 rfl wz (aA 0 4 il ft sz3 ag3 rfl rfl (vI x_47.Time.To) rfl wz (ma (vI (lD x_36.Time.To x_47.Time.To)) rfl (.inl rfl) wz (aH Ca rfl 0 rfl wz (aH ib rfl 0 rfl wz (aA 0 3 il ft sz3 ag3 rfl rfl (vI x_36.Time.From) rfl wz (aH Ca rfl 0 rfl wz (aH ib rfl 0 rfl wz (aA 0 4 il ft sz3 ag3 rfl rfl (vI x_47.Time.From) rfl wz ?_)))))))))))))))))))))))
       refine ma (vI (jE x_36.Time.From x_47.Time.From)) rfl (.inr rfl) wz (ae (vI (w64 ((lD x_36.Time.To x_47.Time.To)-(jE x_36.Time.From x_47.Time.From)))) wz rfl (ma (vI (jE 0 (w64 ((lD x_36.Time.To x_47.Time.To)-(jE x_36.Time.From x_47.Time.From))))) rfl (.inr rfl) wz (ae (vI (w64 (s_50+(jE 0 (w64 ((lD x_36.Time.To x_47.Time.To)-(jE x_36.Time.From x_47.Time.From))))))) wz rfl (ae (vI (w64 (s_50+(jE 0 (w64 ((lD x_36.Time.To x_47.Time.To)-(jE x_36.Time.From x_47.Time.From))))))) wz rfl (aj (aa (fu (bA hD_48 hn_49) wz rfl (ae (vI ((k_45+1:Nat):Int)) wz rfl (aj ?_)))))))))
       obtain rfl:=ah hc_51
       exact aO (k_45+1,l_46,(w64 (s_50+(jE 0 (w64 ((lD x_36.Time.To x_47.Time.To)-(jE x_36.Time.From x_47.Time.From))))))) ⟨hL_52,aR hD_48⟩ (ls_ _) rfl (aJ rfl)
     ·rintro s_50 ho_ sl_ H_ hp_ hq_
      subst ho_
      refine aL _ hp_ hq_ (aa (fu (bA hD_37 hn_38) wz rfl (ae (vI ((k_34+1:Nat):Int)) wz rfl (aj ?_))))
      obtain rfl:=ah hc_40
      exact aO (k_34+1,l_35,s_50) ⟨hL_41,aR hD_37⟩ (ls_ _) rfl (aJ rfl)
   ·rintro s_39 ho_ sl_ H_ hp_ hq_
    subst ho_
    refine aL _ hp_ hq_ (af ?_)
    obtain ⟨v_56,h_57,hF⟩:=bind_some hF
    refine aD (β:=Unit) (λ_=>([(2,(vB v_56))]:SL_)) (λ_=>([(n_2,some (.cells 2 [(vL eI r_25.2.L),(vI r_25.2.f_at)])),(n_21,some (.cells 3 [(vS (⟨#[112,97]⟩:ByteArray)),(vI r_6.1),(vI r_9.1)])),(n_22,some (.cells 2 [(vI r_15.1),(vI r_18.1)]))]:Hp)) (λ_=>True) ?_ ?_
    ·refine aa (ae (vI s_39) wz rfl (aH iq rfl 1 rfl wz (aA 0 2 il ft sz3 ag3 rfl rfl (vI r_18.1) rfl wz (aH ib rfl 0 rfl wz (aA 0 2 il ft sz3 ag3 rfl rfl (vI r_15.1) rfl wz (ae (vI (w64 (r_18.1-r_15.1))) wz rfl (ae (vB (s_39==(w64 (r_18.1-r_15.1)))) wz rfl ?_)))))))
     rcases au h_57 with⟨hc_58,h_57⟩|⟨hc_58,h_57⟩
     ·refine aF rfl hc_58 wz ?_
      obtain ⟨r_59,hr_60,h_57⟩:=bind_some h_57
      refine aI (y5 hr_60) rfl hb10 rfl rfl rfl rfl wa (ae (vB r_59) wz rfl (ae (vB r_59) wz rfl (aj ?_)))
      obtain rfl:=ah h_57
      exact cu
     ·refine aF rfl hc_58 wz (ak wa (ae (vB false) wz rfl (ae (vB false) wz rfl (aj ?_))))
      obtain rfl:=ah h_57
      exact cu
    ·rintro ⟨⟩ _ sl_ H_ hp_ hq_
     refine aL _ hp_ hq_ ?_
     obtain rfl:=ah hF
     exact aG (aU (.inr rfl) [(vB v_56)] ⟨rfl,trivial⟩ rfl rfl rfl)
end Go.Proofs.YticmkhcacamhkaaGreatDoor.Law

