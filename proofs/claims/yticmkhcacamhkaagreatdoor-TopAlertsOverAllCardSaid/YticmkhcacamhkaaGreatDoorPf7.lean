/-
 The machine computes these plain functions (written by a program of ours).
-/
import Derived.Test.YticmkhcacamhkaaGreatDoorFacts
import Derived.Test.YticmkhcacamhkaaGreatDoorDefs
import Derived.Test.YticmkhcacamhkaaGreatDoorPf6
open Go Go.Eng Go.Proofs
namespace Go.Proofs.YticmkhcacamhkaaGreatDoor.Law
set_option maxRecDepth 100000
set_option linter.unusedVariables false
set_option maxHeartbeats 1000000
theorem BV {l_1:(List Rect)} {m_2:(List Rect)} {r:(List Rect)} (hF:oD l_1 m_2=some r) :
  FnM Tryz.prog 50 [(vL Rect.enc l_1),(vL Rect.enc m_2)] [] (vL Rect.enc r) []:=by
 refine FnM.of_wH ⟨Tryz.prog,88,[],[]⟩ rfl Tryz.func50 rfl rfl (lb_ rfl) (by kernel_rfl) ?_
 unfold oD at hF
 refine af (aa (ae .nil wz rfl (aj (af (aa (ae .nil wz rfl (aj (af (af (aa (ae (vL Rect.enc l_1) wz rfl (ae (vL Rect.enc m_2) wz rfl (dW (([l_1,m_2]:List (List Rect)).map (eL Rect.enc)) Pg ez177 rfl rfl rfl rfl rfl wz ?_)))))))))))))
 obtain ⟨r_3,hr_4,hF⟩:=bind_some hF
 refine aI (oK hr_4) rfl hb84 rfl rfl rfl rfl wz (bW BB rfl wz (ae (vI 0) wz rfl (aj (kg (λn_11 => ?_)))))
 obtain ⟨o_16,hj_17,hF⟩:=bind_some hF
 obtain ⟨hn_9,hj_17⟩:=aV hj_17
 refine aD (β:=((List Int))×Nm) (λp=>(λ(s_10:List Int) (n_13:Nm)=>([(0,(vL Rect.enc l_1)),(1,(vL Rect.enc m_2)),(5,(gV n_13 1 s_10))]:SL_)) p.1 p.2) (λp=>(λ(s_10:List Int) (n_13:Nm)=>([(n_13,gB 1 eI s_10)]:Hp)) p.1 p.2) (λp=>o_16 = .go p.1) ?_ ?_
 ·refine ay (aS (β:=Nat×(List Rect)×((List Int))×Nm) (λp=>(λ(k_5:Nat) (l_6:List Rect) (s_10:List Int) (n_13:Nm)=>([(0,(vL Rect.enc l_1)),(1,(vL Rect.enc m_2)),(5,(gV n_13 1 s_10)),(19,(vL Rect.enc r_3)),(20,(vI (r_3.length:Int))),(21,(vI (k_5:Int)))]:SL_)) p.1 p.2.1 p.2.2.1 p.2.2.2) (λp=>(λ(k_5:Nat) (l_6:List Rect) (s_10:List Int) (n_13:Nm)=>([(n_13,gB 1 eI s_10)]:Hp)) p.1 p.2.1 p.2.2.1 p.2.2.2) (λp=>forR (λk x s=>nK k x s) p.2.1 p.1 p.2.2.1=some o_16/\(r_3).drop p.1=p.2.1) (λp=>p.2.1.length) (0,r_3,([]:List Int),n_11) ⟨hj_17,rfl⟩ rfl (aJ rfl) ?_)
  rintro ⟨k_5,l_6,s_10,n_13⟩ ⟨hL_15,hD_8⟩
  dsimp only at hL_15 hD_8
  cases l_6 with
  | nil =>
   obtain rfl:=ah hL_15
   refine af (aa (ae (vB (decide ((k_5:Int)<(r_3.length:Int)))) wz rfl (aj ?_)))
   refine af (aB rfl (drop_nil hD_8) (aP ?_))
   exact aN (s_10,n_13) rfl rfl (aJ rfl)
  | cons x_7 l_6 =>
   obtain ⟨c_,hc_14,hL_15⟩:=bind_some hL_15
   refine af (aa (ae (vB (decide ((k_5:Int)<(r_3.length:Int)))) wz rfl (aj ?_)))
   refine af (aC rfl (bf hD_8) (ax ?_))
   unfold nK at hc_14
   refine af (ay (af (aa (dK Iu rfl rfl (bG hD_8) rfl wz (bB vH Io rfl (.d (.agg (Rect.enc x_7))) rfl wz (cK 0 (.inl rfl) z55 rfl wz (λn_18=>eD 0 il ft 1 vH rfl rfl [(vI x_7.X),(vI x_7.Y),(vI x_7.W),(vI x_7.H)] rfl wz (aj (aa (ae (gV n_13 1 s_10) wz rfl (aH yl rfl 1 rfl wz (aA 0 1 il ft sz3 ag3 rfl rfl (vI x_7.Y) rfl wz (aH yl rfl 1 rfl wz (aA 0 1 il ft sz3 ag3 rfl rfl (vI x_7.Y) rfl wz (aH Fe rfl 3 rfl wz (aA 0 1 il ft sz3 ag3 rfl rfl (vI x_7.H) rfl wz (ae (vI (w64 (x_7.Y+x_7.H))) wz rfl (dW (([x_7.Y,(w64 (x_7.Y+x_7.H))]:List Int).map eI) jf uh rfl rfl rfl rfl rfl wz ?_))))))))))))))))))
   obtain ⟨a_19,hz_20,hc_14⟩:=bind_some hc_14
   refine jS 0 il ft (i:=0) DY DY sz3 z3 rfl (by decide) by3 (by decide) (λ_=>rfl) rfl rfl rfl hz_20 wz (λn_21=>ae (gV n_21 1 a_19) wz rfl (aj (aa (fu (bA hD_8 hn_9) wz rfl (ae (vI ((k_5+1:Nat):Int)) wz rfl (aj ?_))))))
   obtain rfl:=ah hc_14
   exact aO (k_5+1,l_6,a_19,n_21) ⟨hL_15,aR hD_8⟩ (ls_ _) rfl (aJ rfl)
 ·rintro ⟨s_10,n_13⟩ ho_ sl_ H_ hp_ hq_
  subst ho_
  refine aL _ hp_ hq_ (af (aa (ae (gV n_13 1 s_10) wz rfl ?_)))
  obtain ⟨r_22,hr_23,hF⟩:=bind_some hF
  obtain ⟨_,hs_24,hF⟩:=bind_some hF
  replace hs_24:=lm hs_24
  refine kw 0 [] 0 0 il ft (jZ hr_23) rfl hb33 rfl rfl rfl (by kernel_rfl) rfl (.inl rfl) rfl (by kernel_rfl) (by kernel_rfl) (by kernel_rfl) (by kernel_rfl) rfl (by decide) (by kernel_rfl) kX (uC hs_24) wz ([(n_13,gB 1 eI r_22)]:Hp) (by kernel_rfl) (dn (v':=(gV n_13 1 r_22)) 36 rfl (iK hs_24.symm) (dn (v':=(gV n_13 1 r_22)) 5 rfl (iK hs_24.symm) (aj (af (aa (ae (gV n_13 1 r_22) wz rfl ?_))))))
  obtain ⟨r_25,hr_26,hF⟩:=bind_some hF
  refine kw 0 [] 0 0 il ft (jl hr_26) rfl hb34 rfl rfl rfl (by kernel_rfl) rfl (.inl rfl) rfl (by kernel_rfl) (by kernel_rfl) (by kernel_rfl) (by kernel_rfl) rfl (by decide) (by kernel_rfl) yV (λ_=>rfl) wz ([(n_13,none)]:Hp) (by kernel_rfl) (ae (vL eI r_25) wz rfl (aj (af (aa (ae .nil wz rfl (aj (af (aa (ae .nil wz rfl (aj (af (aa (ae (vI 0) wz rfl (aj (af (af (aa (ae (vL eI r_25) wz rfl (bW wO rfl wz (ae (vI 0) wz rfl (aj (ML Run.enc 9 rfl (kg (λn_33 => ?_))))))))))))))))))))))))
  obtain ⟨o_38,hj_39,hF⟩:=bind_some hF
  obtain ⟨hn_31,hj_39⟩:=aV hj_39
  refine aD (β:=((List Rect)×(List Run)×Int)×Nm) (λp=>(λ(s_32:(List Rect)×(List Run)×Int) (n_35:Nm)=>([(8,(gV n_35 4 s_32.1))]:SL_)) p.1 p.2) (λp=>(λ(s_32:(List Rect)×(List Run)×Int) (n_35:Nm)=>([(n_13,none),(n_35,gB 4 Rect.enc s_32.1)]:Hp)) p.1 p.2) (λp=>o_38 = .go p.1) ?_ ?_
  ·refine ay (aS (β:=Nat×(List Int)×((List Rect)×(List Run)×Int)×Nm) (λp=>(λ(k_27:Nat) (l_28:List Int) (s_32:(List Rect)×(List Run)×Int) (n_35:Nm)=>([(0,(vL Rect.enc l_1)),(1,(vL Rect.enc m_2)),(5,(vL eI r_25)),(8,(gV n_35 4 s_32.1)),(9,(vL Run.enc s_32.2.1)),(10,(vI s_32.2.2)),(40,(vL eI r_25)),(41,(vI (r_25.length:Int))),(42,(vI (k_27:Int)))]:SL_)) p.1 p.2.1 p.2.2.1 p.2.2.2) (λp=>(λ(k_27:Nat) (l_28:List Int) (s_32:(List Rect)×(List Run)×Int) (n_35:Nm)=>([(n_13,none),(n_35,gB 4 Rect.enc s_32.1)]:Hp)) p.1 p.2.1 p.2.2.1 p.2.2.2) (λp=>forR (λk x s=>kZ r_25 l_1 m_2 k x s) p.2.1 p.1 p.2.2.1=some o_38/\(r_25).drop p.1=p.2.1) (λp=>p.2.1.length) (0,r_25,(([]:List Rect),([]:List Run),0),n_33) ⟨hj_39,rfl⟩ rfl (aJ rfl) ?_)
   rintro ⟨k_27,l_28,s_32,n_35⟩ ⟨hL_37,hD_30⟩
   dsimp only at hL_37 hD_30
   cases l_28 with
   | nil =>
    obtain rfl:=ah hL_37
    refine af (aa (ae (vB (decide ((k_27:Int)<(r_25.length:Int)))) wz rfl (aj ?_)))
    refine af (aB rfl (drop_nil hD_30) (aP ?_))
    exact aN (s_32,n_35) rfl rfl (aJ rfl)
   | cons x_29 l_28 =>
    obtain ⟨c_,hc_36,hL_37⟩:=bind_some hL_37
    refine af (aa (ae (vB (decide ((k_27:Int)<(r_25.length:Int)))) wz rfl (aj ?_)))
    refine af (aC rfl (bf hD_30) (ax ?_))
    unfold kZ at hc_36
    refine af (ay (af (aa (ae (vI (k_27:Int)) wz rfl (dK jf rfl rfl (bG hD_30) rfl wz (bB sz3 ag3 rfl (vI x_29) rfl wz (ae (vI (k_27:Int)) wz rfl (ae (vI x_29) wz rfl (aj (af (aa (ae .nil wz rfl (aj (af (af (aa (ae (vI (k_27:Int)) wz rfl (ae (vI (w64 ((k_27:Int)+1))) wz rfl (ae (vL eI r_25) wz rfl (bW wO rfl wz (ae (vB (decide ((w64 ((k_27:Int)+1))<(r_25.length:Int)))) wz rfl (aj (ML Run.enc 13 rfl ?_)))))))))))))))))))))))
    obtain ⟨v_42,h_43,hc_36⟩:=bind_some hc_36
    refine aD (β:=Unit) (λ_=>([(0,(vL Rect.enc l_1)),(1,(vL Rect.enc m_2)),(5,(vL eI r_25)),(8,(gV n_35 4 s_32.1)),(9,(vL Run.enc s_32.2.1)),(10,(vI s_32.2.2)),(12,(vI x_29)),(13,(vL Run.enc v_42)),(40,(vL eI r_25)),(41,(vI (r_25.length:Int))),(42,(vI (k_27:Int)))]:SL_)) (λ_=>([(n_13,none),(n_35,gB 4 Rect.enc s_32.1)]:Hp)) (λ_=>True) ?_ ?_
    ·rcases au h_43 with⟨hc_44,h_43⟩|⟨hc_44,h_43⟩
     ·refine aC rfl hc_44 (aa (ae (vL Rect.enc l_1) wz rfl (ae (vI x_29) wz rfl ?_)))
      obtain ⟨r_45,hr_46,h_43⟩:=bind_some h_43
      refine aI (xS hr_46) rfl hb86 rfl rfl rfl rfl wz (ae (vL Rect.enc m_2) wz rfl (ae (vI x_29) wz rfl ?_))
      obtain ⟨r_47,hr_48,h_43⟩:=bind_some h_43
      refine aI (xS hr_48) rfl hb86 rfl rfl rfl rfl wz ?_
      obtain ⟨r_49,hr_50,h_43⟩:=bind_some h_43
      refine aI (EE hr_50) rfl hb85 rfl rfl rfl rfl wz (ae (vL Run.enc r_49) wz rfl (aj ?_))
      obtain rfl:=ah h_43
      exact cu
     ·refine aB rfl hc_44 (ax ?_)
      obtain rfl:=ah h_43
      exact cu
    ·rintro ⟨⟩ _ sl_ H_ hp_ hq_
     refine aL _ hp_ hq_ (af (af (aa (ae (vL Run.enc s_32.2.1) wz rfl (ae (vL Run.enc v_42) wz rfl ?_)))))
     obtain ⟨r_51,hr_52,hc_36⟩:=bind_some hc_36
     refine aI (nG hr_52) rfl hb87 rfl rfl rfl rfl wz (aj ?_)
     rcases au hc_36 with⟨hc_53,hc_36⟩|⟨hc_53,hc_36⟩
     ·refine aC rfl hc_53 (aP (aa (fu (bA hD_30 hn_31) wz rfl (ae (vI ((k_27+1:Nat):Int)) wz rfl (aj ?_)))))
      obtain rfl:=ah hc_36
      exact aO (k_27+1,l_28,(s_32.1,s_32.2.1,s_32.2.2),n_35) ⟨hL_37,aR hD_30⟩ (ls_ _) rfl (aJ rfl)
     ·refine aB rfl hc_53 (ax (af (af (aa (ae (vL Run.enc s_32.2.1) wz rfl (bW zG rfl wz (ae (vI 0) wz rfl (aj ?_))))))))
      obtain ⟨o_64,hj_65,hc_36⟩:=bind_some hc_36
      obtain ⟨hn_58,hj_65⟩:=aV hj_65
      refine aD (β:=((List Rect))×Nm) (λp=>(λ(s_59:List Rect) (n_61:Nm)=>([(0,(vL Rect.enc l_1)),(1,(vL Rect.enc m_2)),(5,(vL eI r_25)),(8,(gV n_61 4 s_59)),(12,(vI x_29)),(13,(vL Run.enc v_42)),(40,(vL eI r_25)),(41,(vI (r_25.length:Int))),(42,(vI (k_27:Int)))]:SL_)) p.1 p.2) (λp=>(λ(s_59:List Rect) (n_61:Nm)=>([(n_13,none),(n_61,gB 4 Rect.enc s_59)]:Hp)) p.1 p.2) (λp=>o_64 = .go p.1) ?_ ?_
      ·refine ay (aS (β:=Nat×(List Run)×((List Rect))×Nm) (λp=>(λ(k_54:Nat) (l_55:List Run) (s_59:List Rect) (n_61:Nm)=>([(0,(vL Rect.enc l_1)),(1,(vL Rect.enc m_2)),(5,(vL eI r_25)),(8,(gV n_61 4 s_59)),(10,(vI s_32.2.2)),(12,(vI x_29)),(13,(vL Run.enc v_42)),(40,(vL eI r_25)),(41,(vI (r_25.length:Int))),(42,(vI (k_27:Int))),(62,(vL Run.enc s_32.2.1)),(63,(vI (s_32.2.1.length:Int))),(64,(vI (k_54:Int)))]:SL_)) p.1 p.2.1 p.2.2.1 p.2.2.2) (λp=>(λ(k_54:Nat) (l_55:List Run) (s_59:List Rect) (n_61:Nm)=>([(n_13,none),(n_61,gB 4 Rect.enc s_59)]:Hp)) p.1 p.2.1 p.2.2.1 p.2.2.2) (λp=>forR (λk x s=>nI s_32 x_29 k x s) p.2.1 p.1 p.2.2.1=some o_64/\(s_32.2.1).drop p.1=p.2.1) (λp=>p.2.1.length) (0,s_32.2.1,s_32.1,n_35) ⟨hj_65,rfl⟩ rfl (aJ rfl) ?_)
       rintro ⟨k_54,l_55,s_59,n_61⟩ ⟨hL_63,hD_57⟩
       dsimp only at hL_63 hD_57
       cases l_55 with
       | nil =>
        obtain rfl:=ah hL_63
        refine af (aa (ae (vB (decide ((k_54:Int)<(s_32.2.1.length:Int)))) wz rfl (aj ?_)))
        refine af (aB rfl (drop_nil hD_57) (aP ?_))
        exact aN (s_59,n_61) rfl rfl (aJ rfl)
       | cons x_56 l_55 =>
        obtain ⟨c_,hc_62,hL_63⟩:=bind_some hL_63
        refine af (aa (ae (vB (decide ((k_54:Int)<(s_32.2.1.length:Int)))) wz rfl (aj ?_)))
        refine af (aC rfl (bf hD_57) (ax ?_))
        unfold nI at hc_62
        refine af (ay (af (aa (dK mV rfl rfl (bG hD_57) rfl wz (bB oQ yh rfl (.d (.agg (Run.enc x_56))) rfl wz (cK 0 (.inl rfl) z146 rfl wz (λn_66=>eD 0 il ft 2 oQ rfl rfl [(vI x_56.f_from),(vI x_56.f_to)] rfl wz (aj (aa (ae (gV n_61 4 s_59) wz rfl (aH mM rfl 0 rfl wz (aA 0 2 il ft sz3 ag3 rfl rfl (vI x_56.f_from) rfl wz (ae (vI s_32.2.2) wz rfl (aH sH rfl 1 rfl wz (aA 0 2 il ft sz3 ag3 rfl rfl (vI x_56.f_to) rfl wz (aH mM rfl 0 rfl wz (aA 0 2 il ft sz3 ag3 rfl rfl (vI x_56.f_from) rfl wz (ae (vI (w64 (x_56.f_to-x_56.f_from))) wz rfl (ae (vI x_29) wz rfl (ae (vI s_32.2.2) wz rfl (ae (vI (w64 (x_29-s_32.2.2))) wz rfl (ae (.d (.agg (Rect.enc (⟨x_56.f_from,s_32.2.2,(w64 (x_56.f_to-x_56.f_from)),(w64 (x_29-s_32.2.2))⟩:Rect)))) wz (by kernel_rfl) (dW (([(⟨x_56.f_from,s_32.2.2,(w64 (x_56.f_to-x_56.f_from)),(w64 (x_29-s_32.2.2))⟩:Rect)]:List Rect).map Rect.enc) Iu ez50 rfl rfl rfl rfl rfl wz ?_)))))))))))))))))))))))
        obtain ⟨a_67,hz_68,hc_62⟩:=bind_some hc_62
        refine jS 0 il ft (i:=1) IP IP vH z55 rfl (by decide) by55 (by decide) (λ_=>rfl) rfl rfl rfl hz_68 wz (λn_69=>ae (gV n_69 4 a_67) wz rfl (aj (aa (fu (bA hD_57 hn_58) wz rfl (ae (vI ((k_54+1:Nat):Int)) wz rfl (aj ?_))))))
        obtain rfl:=ah hc_62
        exact aO (k_54+1,l_55,a_67,n_69) ⟨hL_63,aR hD_57⟩ (ls_ _) rfl (aJ rfl)
      ·rintro ⟨s_59,n_61⟩ ho_ sl_ H_ hp_ hq_
       subst ho_
       refine aL _ hp_ hq_ (aa (ae (vL Run.enc v_42) wz rfl (ae (vI x_29) wz rfl (ae (vL Run.enc v_42) wz rfl (ae (vI x_29) wz rfl (aj (aa (fu (bA hD_30 hn_31) wz rfl (ae (vI ((k_27+1:Nat):Int)) wz rfl (aj ?_))))))))))
       obtain rfl:=ah hc_36
       exact aO (k_27+1,l_28,(s_59,v_42,x_29),n_61) ⟨hL_37,aR hD_30⟩ (ls_ _) rfl (aJ rfl)
  ·rintro ⟨s_32,n_35⟩ ho_ sl_ H_ hp_ hq_
   subst ho_
   refine aL _ hp_ hq_ (af (aa (ae (gV n_35 4 s_32.1) wz rfl (ae (gV n_35 4 s_32.1) wz rfl (aj (gJ 1 rfl (dJ 4 1 rfl rfl (dJ 8 1 rfl rfl (dJ 87 1 rfl rfl ?_)))))))))
   obtain rfl:=ah hF
   exact aG (aU (.inr rfl) [(vL Rect.enc s_32.1)] ⟨rfl,trivial⟩ rfl rfl rfl)
theorem Fa {l_1:(List Rect)} {r:Int} (hF:uD l_1=some r) :
  FnM Tryz.prog 49 [(vL Rect.enc l_1)] [] (vI r) []:=by
 refine FnM.of_wH ⟨Tryz.prog,21,[],[]⟩ rfl Tryz.func49 rfl rfl (lb_ rfl) (by kernel_rfl) ?_
 unfold uD at hF
 refine af (aa (ae (vI 0) wz rfl (aj (af (aa (ae (vI 0) wz rfl (aj (af (af (aa (ae (vL Rect.enc l_1) wz rfl (bW BB rfl wz (ae (vI 0) wz rfl (aj ?_))))))))))))))
 obtain ⟨o_10,hj_11,hF⟩:=bind_some hF
 obtain ⟨hn_6,hj_11⟩:=aV hj_11
 refine aD (β:=(Int)) (λ(s_7:Int)=>([(3,(vI s_7))]:SL_)) (λ(s_7:Int)=>([]:Hp)) (λp=>o_10 = .go p) ?_ ?_
 ·refine ay (aS (β:=Nat×(List Rect)×(Int)) (λp=>(λ(k_2:Nat) (l_3:List Rect) (s_7:Int)=>([(3,(vI s_7)),(6,(vL Rect.enc l_1)),(7,(vI (l_1.length:Int))),(8,(vI (k_2:Int)))]:SL_)) p.1 p.2.1 p.2.2) (λp=>(λ(k_2:Nat) (l_3:List Rect) (s_7:Int)=>([]:Hp)) p.1 p.2.1 p.2.2) (λp=>forR (λk x s=>sS k x s) p.2.1 p.1 p.2.2=some o_10/\(l_1).drop p.1=p.2.1) (λp=>p.2.1.length) (0,l_1,0) ⟨hj_11,rfl⟩ rfl (aJ rfl) ?_)
  rintro ⟨k_2,l_3,s_7⟩ ⟨hL_9,hD_5⟩
  dsimp only at hL_9 hD_5
  cases l_3 with
  | nil =>
   obtain rfl:=ah hL_9
   refine af (aa (ae (vB (decide ((k_2:Int)<(l_1.length:Int)))) wz rfl (aj ?_)))
   refine af (aB rfl (drop_nil hD_5) (aP ?_))
   exact aN (s_7) rfl rfl (aJ rfl)
  | cons x_4 l_3 =>
   obtain ⟨c_,hc_8,hL_9⟩:=bind_some hL_9
   refine af (aa (ae (vB (decide ((k_2:Int)<(l_1.length:Int)))) wz rfl (aj ?_)))
   refine af (aC rfl (bf hD_5) (ax ?_))
   unfold sS at hc_8
   refine af (ay (af (aa (dK Iu rfl rfl (bG hD_5) rfl wz (bB vH Io rfl (.d (.agg (Rect.enc x_4))) rfl wz (cK 0 (.inl rfl) z55 rfl wz (λn_12=>eD 0 il ft 0 vH rfl rfl [(vI x_4.X),(vI x_4.Y),(vI x_4.W),(vI x_4.H)] rfl wz (aj (aa (ae (vI s_7) wz rfl (aH IG rfl 2 rfl wz (aA 0 0 il ft sz3 ag3 rfl rfl (vI x_4.W) rfl wz (aH Fe rfl 3 rfl wz (aA 0 0 il ft sz3 ag3 rfl rfl (vI x_4.H) rfl wz (ae (vI (w64 (x_4.W*x_4.H))) wz rfl (ae (vI (w64 (s_7+(w64 (x_4.W*x_4.H))))) wz rfl (ae (vI (w64 (s_7+(w64 (x_4.W*x_4.H))))) wz rfl (aj (aa (fu (bA hD_5 hn_6) wz rfl (ae (vI ((k_2+1:Nat):Int)) wz rfl (aj ?_))))))))))))))))))))))
   obtain rfl:=ah hc_8
   exact aO (k_2+1,l_3,(w64 (s_7+(w64 (x_4.W*x_4.H))))) ⟨hL_9,aR hD_5⟩ (ls_ _) rfl (aJ rfl)
 ·rintro s_7 ho_ sl_ H_ hp_ hq_
  subst ho_
  refine aL _ hp_ hq_ (af (aa (ae (vI s_7) wz rfl (ae (vI s_7) wz rfl (aj ?_)))))
  obtain rfl:=ah hF
  exact aG (aU (.inr rfl) [(vI s_7)] ⟨rfl,trivial⟩ rfl rfl rfl)
theorem Ed {l_1:(List Rect)} {r:Int×Int} (hF:qW l_1=some r) :
  FnM Tryz.prog 23 [(vL Rect.enc l_1)] [] (.tup [(vI r.1),(vI r.2)]) []:=by
 refine FnM.of_wH ⟨Tryz.prog,13,[],[]⟩ rfl Tryz.func23 rfl rfl (lb_ rfl) (by kernel_rfl) ?_
 unfold qW at hF
 refine af (aa (ae (vI 0) wz rfl (ae (vI 0) wz rfl (aj (af (af (aa (ae (vL Rect.enc l_1) wz rfl ?_))))))))
 obtain ⟨r_2,hr_3,hF⟩:=bind_some hF
 refine aI (xI hr_3) rfl hb48 rfl rfl rfl rfl wz (ae (vI r_2) wz rfl (aj (af (aa (ae (vI r_2) wz rfl (ae (vB (r_2 != 0)) wz rfl (aj ?_)))))))
 rcases au hF with⟨hc_4,hF⟩|⟨hc_4,hF⟩
 ·refine aC rfl hc_4 (af (aa (ae (vI r_2) wz rfl (ae (vI 0) wz rfl (ae (vI r_2) wz rfl (aj ?_))))))
  obtain rfl:=ah hF
  exact aG (aU (.inr rfl) [(vI 0),(vI r_2)] ⟨rfl,⟨rfl,trivial⟩⟩ rfl rfl rfl)
 ·refine aB rfl hc_4 (ax (af (aa (ae (vL Rect.enc l_1) wz rfl ?_))))
  obtain ⟨r_5,hr_6,hF⟩:=bind_some hF
  refine aI (BV hr_6) rfl hb50 rfl rfl rfl rfl wz ?_
  obtain ⟨r_7,hr_8,hF⟩:=bind_some hF
  refine aI (Fa hr_8) rfl hb49 rfl rfl rfl rfl wz (ae (vI r_7) wz rfl (ae (vI 0) wz rfl (aj ?_)))
  obtain rfl:=ah hF
  exact aG (aU (.inr rfl) [(vI r_7),(vI 0)] ⟨rfl,⟨rfl,trivial⟩⟩ rfl rfl rfl)
theorem Bn {wv_1:Window} {r:Bool} (hF:qb wv_1=some r) :
  FnM Tryz.prog 88 [(.d (.agg (Window.enc wv_1)))] [] (vB r) []:=by
 refine FnM.of_wH ⟨Tryz.prog,18,[],[]⟩ rfl Tryz.func88 rfl rfl (lb_ rfl) (by kernel_rfl) ?_
 unfold qb at hF
 refine af (aa (dL 0 (.inl rfl) [(vI wv_1.From),(vI wv_1.To)] rfl rfl wz (λn_2=>ae (vB false) wz rfl (aj (af ?_)))))
 obtain ⟨v_3,h_4,hF⟩:=bind_some hF
 refine aD (β:=Unit) (λ_=>([(2,(vB v_3))]:SL_)) (λ_=>([(n_2,some (.cells 2 [(vI wv_1.From),(vI wv_1.To)]))]:Hp)) (λ_=>True) ?_ ?_
 ·refine aa (aH ib rfl 0 rfl wz (aA 0 0 il ft sz3 ag3 rfl rfl (vI wv_1.From) rfl wz (ae (vB (decide (wv_1.From>=0))) wz rfl ?_)))
  rcases au h_4 with⟨hc_5,h_4⟩|⟨hc_5,h_4⟩
  ·refine aF rfl hc_5 wz (aH ib rfl 0 rfl wa (aA 0 0 il ft sz3 ag3 rfl rfl (vI wv_1.From) rfl wa (aH iq rfl 1 rfl wa (aA 0 0 il ft sz3 ag3 rfl rfl (vI wv_1.To) rfl wa (ae (vB (decide (wv_1.From<wv_1.To))) wa rfl (ae (vB (decide (wv_1.From<wv_1.To))) wz rfl ?_))))))
   rcases au h_4 with⟨hc_6,h_4⟩|⟨hc_6,h_4⟩
   ·refine aF rfl hc_6 wz (aH iq rfl 1 rfl wa (aA 0 0 il ft sz3 ag3 rfl rfl (vI wv_1.To) rfl wa (ae (vB (decide (wv_1.To<=345686400000))) wa rfl (ae (vB (decide (wv_1.To<=345686400000))) wz rfl (ae (vB (decide (wv_1.To<=345686400000))) wz rfl (aj ?_))))))
    obtain rfl:=ah h_4
    exact cu
   ·refine aF rfl hc_6 wz (ak wa (ak wa (ak wa (ae (vB false) wz rfl (ae (vB false) wz rfl (aj ?_))))))
    obtain rfl:=ah h_4
    exact cu
  ·refine aF rfl hc_5 wz (ak wa (ak wa (ak wa (ak wa (ak wa (ae (vB false) wz rfl (ae (vB false) wz rfl (ak wa (ak wa (ak wa (ae (vB false) wz rfl (ae (vB false) wz rfl (aj ?_)))))))))))))
   obtain rfl:=ah h_4
   exact cu
 ·rintro ⟨⟩ _ sl_ H_ hp_ hq_
  refine aL _ hp_ hq_ ?_
  obtain rfl:=ah hF
  exact aG (aU (.inr rfl) [(vB v_3)] ⟨rfl,trivial⟩ rfl rfl rfl)
theorem xL {l_1:(List ByteArray)} {r:Int} (hF:kH l_1=some r) :
  FnM Tryz.prog 89 [(vL eS l_1)] [] (vI r) []:=by
 refine FnM.of_wH ⟨Tryz.prog,8,[],[]⟩ rfl Tryz.func89 rfl rfl (lb_ rfl) (by kernel_rfl) ?_
 unfold kH at hF
 refine af (aa (ae (vI 0) wz rfl (aj (af (af (aa (ae (vL eS l_1) wz rfl (bW yY rfl wz (ae (vB (decide ((l_1.length:Int)>20))) wz rfl (aj ?_))))))))))
 rcases au hF with⟨hc_2,hF⟩|⟨hc_2,hF⟩
 ·refine aC rfl hc_2 (af (aa (ae (vI 2) wz rfl (aj ?_))))
  obtain rfl:=ah hF
  exact aG (aU (.inr rfl) [(vI 2)] ⟨rfl,trivial⟩ rfl rfl rfl)
 ·refine aB rfl hc_2 (ax (af (aa (ae (vL eS l_1) wz rfl ?_))))
  obtain ⟨r_3,hr_4,hF⟩:=bind_some hF
  refine aI (tQ hr_4) rfl hb116 rfl rfl rfl rfl wz (ae (vI r_3) wz rfl (aj ?_))
  obtain rfl:=ah hF
  exact aG (aU (.inr rfl) [(vI r_3)] ⟨rfl,trivial⟩ rfl rfl rfl)
theorem ut {l_1:(List Campaign)} {r:Int} (hF:iB l_1=some r) :
  FnM Tryz.prog 51 [(vL Campaign.enc l_1)] [] (vI r) []:=by
 refine FnM.of_wH ⟨Tryz.prog,73,[],[]⟩ rfl Tryz.func51 rfl rfl (lb_ rfl) (by kernel_rfl) ?_
 unfold iB at hF
 refine af (aa (ae (vI 0) wz rfl (aj (af (af (aa (ae (vL Campaign.enc l_1) wz rfl (bW un109 rfl wz (ae (vB (decide ((l_1.length:Int)>30))) wz rfl (aj ?_))))))))))
 rcases au hF with⟨hc_2,hF⟩|⟨hc_2,hF⟩
 ·refine aC rfl hc_2 (af (aa (ae (vI 2) wz rfl (aj ?_))))
  obtain rfl:=ah hF
  exact aG (aU (.inr rfl) [(vI 2)] ⟨rfl,trivial⟩ rfl rfl rfl)
 ·refine aB rfl hc_2 (ax (af (af (aa (ae (vL Campaign.enc l_1) wz rfl (bW un109 rfl wz (ae (vI 0) wz rfl (aj ?_))))))))
  obtain ⟨o_11,hj_12,hF⟩:=bind_some hF
  obtain ⟨hn_7,hj_12⟩:=aV hj_12
  refine aD (β:=(Unit)) (λ(s_8:Unit)=>([]:SL_)) (λ(s_8:Unit)=>([]:Hp)) (λp=>o_11 = .go p) ?_ ?_
  ·refine ay (aS (β:=Nat×(List Campaign)×(Unit)) (λp=>(λ(k_3:Nat) (l_4:List Campaign) (s_8:Unit)=>([(0,(vL Campaign.enc l_1)),(9,(vL Campaign.enc l_1)),(10,(vI (l_1.length:Int))),(11,(vI (k_3:Int)))]:SL_)) p.1 p.2.1 p.2.2) (λp=>(λ(k_3:Nat) (l_4:List Campaign) (s_8:Unit)=>([]:Hp)) p.1 p.2.1 p.2.2) (λp=>forR (λk x s=>fV l_1 k x s) p.2.1 p.1 p.2.2=some o_11/\(l_1).drop p.1=p.2.1) (λp=>p.2.1.length) (0,l_1,()) ⟨hj_12,rfl⟩ rfl (aJ rfl) ?_)
   rintro ⟨k_3,l_4,s_8⟩ ⟨hL_10,hD_6⟩
   dsimp only at hL_10 hD_6
   cases l_4 with
   | nil =>
    obtain rfl:=ah hL_10
    refine af (aa (ae (vB (decide ((k_3:Int)<(l_1.length:Int)))) wz rfl (aj ?_)))
    refine af (aB rfl (drop_nil hD_6) (aP ?_))
    exact aN (s_8) rfl rfl (aJ rfl)
   | cons x_5 l_4 =>
    obtain ⟨c_,hc_9,hL_10⟩:=bind_some hL_10
    refine af (aa (ae (vB (decide ((k_3:Int)<(l_1.length:Int)))) wz rfl (aj ?_)))
    refine af (aC rfl (bf hD_6) (ax ?_))
    unfold fV at hc_9
    refine af (ay (af (aa (ae (vI (k_3:Int)) wz rfl (dK PY rfl rfl (bG hD_6) rfl wz (bB sz73 ag73 rfl (.d (.agg (Campaign.enc x_5))) rfl wz (cK 0 (.inl rfl) z73 rfl wz (λn_13=>ae (vI (k_3:Int)) wz rfl (eD 0 il ft 0 sz73 rfl rfl [(vS x_5.Key),(vS x_5.Class),(vI x_5.Time.From),(vI x_5.Time.To),(vL eS x_5.Tags),(vI x_5.Goal),(vI x_5.Most),(vI x_5.Cents)] rfl wz (aj (af (ay (af ?_)))))))))))))
    obtain ⟨v_14,h_15,hc_9⟩:=bind_some hc_9
    refine aD (β:=Unit) (λ_=>([(0,(vL Campaign.enc l_1)),(3,(vI (k_3:Int))),(4,(.ref n_13 0 0)),(9,(vL Campaign.enc l_1)),(10,(vI (l_1.length:Int))),(11,(vI (k_3:Int))),(16,(vB v_14))]:SL_)) (λ_=>([(n_13,some (.cells 8 [(vS x_5.Key),(vS x_5.Class),(vI x_5.Time.From),(vI x_5.Time.To),(vL eS x_5.Tags),(vI x_5.Goal),(vI x_5.Most),(vI x_5.Cents)]))]:Hp)) (λ_=>True) ?_ ?_
    ·refine aa (aH Kz rfl 0 rfl wz (aA 0 0 il ft sz9 ag9 rfl rfl (vS x_5.Key) rfl wz ?_))
     obtain ⟨r_16,hr_17,h_15⟩:=bind_some h_15
     refine aI (fT hr_17) rfl BJ rfl rfl rfl rfl wz (ae (vB (!r_16)) wz rfl ?_)
     rcases au h_15 with⟨hc_18,h_15⟩|⟨hc_18,h_15⟩
     ·refine aF rfl hc_18 wz (ak wa (ak wa (ak wa (ak wa (ak (wn rfl rfl) (ak (wn rfl rfl) (ak (wn rfl rfl) (ak (wn rfl rfl) (ak wa (ae (vB true) wz rfl (ae (vB true) wz rfl (aj ?_))))))))))))
      obtain rfl:=ah h_15
      exact cu
     ·refine aF rfl hc_18 wz (aH Po rfl 1 rfl wa (aA 0 0 il ft sz9 ag9 rfl rfl (vS x_5.Class) rfl wa (ae (vB (sNe x_5.Class (⟨#[]⟩:ByteArray))) wa rfl ?_)))
      rcases au h_15 with⟨hc_19,h_15⟩|⟨hc_19,h_15⟩
      ·refine aF rfl hc_19 wa (aH Po rfl 1 rfl wa (aA 0 0 il ft sz9 ag9 rfl rfl (vS x_5.Class) rfl wa ?_))
       obtain ⟨r_20,hr_21,h_15⟩:=bind_some h_15
       refine aI (fT hr_21) rfl BJ rfl rfl rfl rfl wa (ae (vB (!r_20)) wa rfl (ae (vB (!r_20)) wa rfl (ae (vB (!r_20)) wz rfl (ae (vB (!r_20)) wz rfl (aj ?_)))))
       obtain rfl:=ah h_15
       exact cu
      ·refine aF rfl hc_19 wa (ak wa (ak wa (ak wa (ak wa (ae (vB false) wa rfl (ae (vB false) wz rfl (ae (vB false) wz rfl (aj ?_))))))))
       obtain rfl:=ah h_15
       exact cu
    ·rintro ⟨⟩ _ sl_ H_ hp_ hq_
     refine aL _ hp_ hq_ ?_
     rcases au hc_9 with⟨hc_22,hc_9⟩|⟨hc_22,hc_9⟩
     ·refine aC rfl hc_22 (af (aa (ae (vI 5) wz rfl (aj ?_))))
      obtain rfl:=ah hc_9
      obtain rfl:=ah hL_10
      obtain rfl:=ah hF
      exact aG (aU (.inr rfl) [(vI 5)] ⟨rfl,trivial⟩ rfl rfl rfl)
     ·refine aB rfl hc_22 (af ?_)
      obtain ⟨v_23,h_24,hc_9⟩:=bind_some hc_9
      refine aD (β:=Unit) (λ_=>([(0,(vL Campaign.enc l_1)),(4,(.ref n_13 0 0)),(9,(vL Campaign.enc l_1)),(10,(vI (l_1.length:Int))),(11,(vI (k_3:Int))),(32,(vB v_23))]:SL_)) (λ_=>([(n_13,some (.cells 8 [(vS x_5.Key),(vS x_5.Class),(vI x_5.Time.From),(vI x_5.Time.To),(vL eS x_5.Tags),(vI x_5.Goal),(vI x_5.Most),(vI x_5.Cents)]))]:Hp)) (λ_=>True) ?_ ?_
      ·refine aW (ae (vI (k_3:Int)) wz rfl (ae (vB (decide ((k_3:Int)>0))) wz rfl ?_))
       rcases au h_24 with⟨hc_25,h_24⟩|⟨hc_25,h_24⟩
       ·refine aF rfl hc_25 wz (aH Kz rfl 0 rfl wa (aA 4 0 (.inr (by kernel_rfl)) (λ_ _ ag=>trivial) sz9 ag9 rfl rfl (vS x_5.Key) rfl wa (ae (vL Campaign.enc l_1) wa rfl (ae (vI (k_3:Int)) wa rfl (ae (vI (w64 ((k_3:Int)-1))) wa rfl ?_)))))
        obtain ⟨y_26,hy_27,h_24⟩:=bind_some h_24
        refine dK PY rfl rfl hy_27 rfl wa (og Kz rfl (Campaign.enc y_26) rfl rfl wa (bB sz9 ag9 rfl (vS y_26.Key) rfl wa (ae (vB (sLe x_5.Key y_26.Key)) wa rfl (ae (vB (sLe x_5.Key y_26.Key)) wz rfl (ae (vB (sLe x_5.Key y_26.Key)) wz rfl (aj ?_))))))
        obtain rfl:=ah h_24
        exact cu
       ·refine aF rfl hc_25 wz (ak wa (ak wa (ak wa (ak wa (ak wa (ak wa (ak wa (ak wa (ak wa (ae (vB false) wz rfl (ae (vB false) wz rfl (aj ?_))))))))))))
        obtain rfl:=ah h_24
        exact cu
      ·rintro ⟨⟩ _ sl_ H_ hp_ hq_
       refine aL _ hp_ hq_ ?_
       rcases au hc_9 with⟨hc_28,hc_9⟩|⟨hc_28,hc_9⟩
       ·refine aC rfl hc_28 (af (aa (ae (vI 7) wz rfl (aj ?_))))
        obtain rfl:=ah hc_9
        obtain rfl:=ah hL_10
        obtain rfl:=ah hF
        exact aG (aU (.inr rfl) [(vI 7)] ⟨rfl,trivial⟩ rfl rfl rfl)
       ·refine aB rfl hc_28 (af ?_)
        obtain ⟨v_29,h_30,hc_9⟩:=bind_some hc_9
        refine aD (β:=Unit) (λ_=>([(0,(vL Campaign.enc l_1)),(4,(.ref n_13 0 0)),(9,(vL Campaign.enc l_1)),(10,(vI (l_1.length:Int))),(11,(vI (k_3:Int))),(46,(vB v_29))]:SL_)) (λ_=>([(n_13,some (.cells 8 [(vS x_5.Key),(vS x_5.Class),(vI x_5.Time.From),(vI x_5.Time.To),(vL eS x_5.Tags),(vI x_5.Goal),(vI x_5.Most),(vI x_5.Cents)]))]:Hp)) (λ_=>True) ?_ ?_
        ·refine aa (aH Ch rfl 2 rfl wz (aA 0 0 il ft lT qI rfl rfl (.d (.agg (Window.enc x_5.Time))) rfl wz ?_))
         obtain ⟨r_31,hr_32,h_30⟩:=bind_some h_30
         refine aI (Bn hr_32) rfl hb88 rfl rfl rfl rfl wz (ae (vB (!r_31)) wz rfl ?_)
         rcases au h_30 with⟨hc_33,h_30⟩|⟨hc_33,h_30⟩
         ·refine aF rfl hc_33 wz (ak wa (ak wa (ak wa (ae (vB true) wz rfl (ae (vB true) wz rfl (ak wa (ak wa (ak wa (ae (vB true) wz rfl (ae (vB true) wz rfl (ak wa (ak wa (ak wa (ae (vB true) wz rfl (ae (vB true) wz rfl (aj ?_))))))))))))))))
          obtain rfl:=ah h_30
          exact cu
         ·refine aF rfl hc_33 wz (aH KW rfl 5 rfl wa (aA 0 0 il ft sz3 ag3 rfl rfl (vI x_5.Goal) rfl wa ?_))
          obtain ⟨r_34,hr_35,h_30⟩:=bind_some h_30
          refine aI (bg hr_35) rfl rA rfl rfl rfl rfl wa (ae (vB r_34) wz rfl ?_)
          rcases au h_30 with⟨hc_36,h_30⟩|⟨hc_36,h_30⟩
          ·refine aF rfl hc_36 wz (ak wa (ak wa (ak wa (ae (vB true) wz rfl (ae (vB true) wz rfl (ak wa (ak wa (ak wa (ae (vB true) wz rfl (ae (vB true) wz rfl (aj ?_)))))))))))
           obtain rfl:=ah h_30
           exact cu
          ·refine aF rfl hc_36 wz (aH pl73_5 rfl 6 rfl wa (aA 0 0 il ft sz3 ag3 rfl rfl (vI x_5.Most) rfl wa ?_))
           obtain ⟨r_37,hr_38,h_30⟩:=bind_some h_30
           refine aI (bg hr_38) rfl rA rfl rfl rfl rfl wa (ae (vB r_37) wz rfl ?_)
           rcases au h_30 with⟨hc_39,h_30⟩|⟨hc_39,h_30⟩
           ·refine aF rfl hc_39 wz (ak wa (ak wa (ak wa (ae (vB true) wz rfl (ae (vB true) wz rfl (aj ?_))))))
            obtain rfl:=ah h_30
            exact cu
           ·refine aF rfl hc_39 wz (aH pl73_6 rfl 7 rfl wa (aA 0 0 il ft sz3 ag3 rfl rfl (vI x_5.Cents) rfl wa ?_))
            obtain ⟨r_40,hr_41,h_30⟩:=bind_some h_30
            refine aI (bg hr_41) rfl rA rfl rfl rfl rfl wa (ae (vB r_40) wz rfl (ae (vB r_40) wz rfl (aj ?_)))
            obtain rfl:=ah h_30
            exact cu
        ·rintro ⟨⟩ _ sl_ H_ hp_ hq_
         refine aL _ hp_ hq_ ?_
         rcases au hc_9 with⟨hc_42,hc_9⟩|⟨hc_42,hc_9⟩
         ·refine aC rfl hc_42 (af (aa (ae (vI 1) wz rfl (aj ?_))))
          obtain rfl:=ah hc_9
          obtain rfl:=ah hL_10
          obtain rfl:=ah hF
          exact aG (aU (.inr rfl) [(vI 1)] ⟨rfl,trivial⟩ rfl rfl rfl)
         ·refine aB rfl hc_42 (ax (af (aa (aH pl73_3 rfl 4 rfl wz (aA 0 0 il ft xU A8 rfl rfl (vL eS x_5.Tags) rfl wz ?_)))))
          obtain ⟨r_43,hr_44,hc_9⟩:=bind_some hc_9
          refine aI (xL hr_44) rfl hb89 rfl rfl rfl rfl wz (ae (vI r_43) wz rfl (aj (af (aa (ae (vI r_43) wz rfl (ae (vB (r_43 != 0)) wz rfl (aj ?_)))))))
          rcases au hc_9 with⟨hc_45,hc_9⟩|⟨hc_45,hc_9⟩
          ·refine aC rfl hc_45 (af (aa (ae (vI r_43) wz rfl (ae (vI r_43) wz rfl (aj ?_)))))
           obtain rfl:=ah hc_9
           obtain rfl:=ah hL_10
           obtain rfl:=ah hF
           exact aG (aU (.inr rfl) [(vI r_43)] ⟨rfl,trivial⟩ rfl rfl rfl)
          ·refine aB rfl hc_45 (ax (aa (fu (bA hD_6 hn_7) wz rfl (ae (vI ((k_3+1:Nat):Int)) wz rfl (aj ?_)))))
           obtain rfl:=ah hc_9
           exact aO (k_3+1,l_4,()) ⟨hL_10,aR hD_6⟩ (ls_ _) rfl (aJ rfl)
  ·rintro s_8 ho_ sl_ H_ hp_ hq_
   subst ho_
   refine aL _ hp_ hq_ (af (aa (ae (vI 0) wz rfl (aj ?_))))
   obtain rfl:=ah hF
   exact aG (aU (.inr rfl) [(vI 0)] ⟨rfl,trivial⟩ rfl rfl rfl)
theorem Ef {c_1:Campaign} {atv_2:Int} {r:Int} (hF:uI c_1 atv_2=some r) :
  FnM Tryz.prog 53 [(.d (.agg (Campaign.enc c_1))),(vI atv_2)] [] (vI r) []:=by
 refine FnM.of_wH ⟨Tryz.prog,35,[],[]⟩ rfl Tryz.func53 rfl rfl (lb_ rfl) (by kernel_rfl) ?_
 unfold uI at hF
 refine af (aa (dL 0 (.inl rfl) [(vS c_1.Key),(vS c_1.Class),(vI c_1.Time.From),(vI c_1.Time.To),(vL eS c_1.Tags),(vI c_1.Goal),(vI c_1.Most),(vI c_1.Cents)] rfl rfl wz (λn_3=>ae (vI 0) wz rfl (aj (af (ay (af (aa (ae (vI atv_2) wz rfl (aH Ch rfl 2 rfl wz (aH ib rfl 2 rfl wz (aA 0 0 il ft sz3 ag3 rfl rfl (vI c_1.Time.From) rfl wz (ae (vB (decide (atv_2<c_1.Time.From))) wz rfl (ae (vB (decide (atv_2<c_1.Time.From))) wz rfl (aj ?_)))))))))))))))
 rcases au hF with⟨hc_4,hF⟩|⟨hc_4,hF⟩
 ·refine aC rfl hc_4 (af (aa (ae (vI 0) wz rfl (aj ?_))))
  obtain rfl:=ah hF
  exact aG (aU (.inr rfl) [(vI 0)] ⟨rfl,trivial⟩ rfl rfl rfl)
 ·refine aB rfl hc_4 (af (aa (ae (vI atv_2) wz rfl (aH Ch rfl 2 rfl wz (aH iq rfl 3 rfl wz (aA 0 0 il ft sz3 ag3 rfl rfl (vI c_1.Time.To) rfl wz (ae (vB (decide (atv_2>=c_1.Time.To))) wz rfl (ae (vB (decide (atv_2>=c_1.Time.To))) wz rfl (aj ?_)))))))))
  rcases au hF with⟨hc_5,hF⟩|⟨hc_5,hF⟩
  ·refine aC rfl hc_5 (af (aa (aH KW rfl 5 rfl wz (aA 0 0 il ft sz3 ag3 rfl rfl (vI c_1.Goal) rfl wz (ae (vI c_1.Goal) wz rfl (aj ?_))))))
   obtain rfl:=ah hF
   exact aG (aU (.inr rfl) [(vI c_1.Goal)] ⟨rfl,trivial⟩ rfl rfl rfl)
  ·refine aB rfl hc_5 (ax (af (aa (aH KW rfl 5 rfl wz (aA 0 0 il ft sz3 ag3 rfl rfl (vI c_1.Goal) rfl wz (ae (vI atv_2) wz rfl (aH Ch rfl 2 rfl wz (aH ib rfl 2 rfl wz (aA 0 0 il ft sz3 ag3 rfl rfl (vI c_1.Time.From) rfl wz (ae (vI (w64 (atv_2-c_1.Time.From))) wz rfl (ae (vI (w64 (c_1.Goal*(w64 (atv_2-c_1.Time.From))))) wz rfl (aH Ch rfl 2 rfl wz (aH iq rfl 3 rfl wz (aA 0 0 il ft sz3 ag3 rfl rfl (vI c_1.Time.To) rfl wz (aH Ch rfl 2 rfl wz (aH ib rfl 2 rfl wz (aA 0 0 il ft sz3 ag3 rfl rfl (vI c_1.Time.From) rfl wz (ae (vI (w64 (c_1.Time.To-c_1.Time.From))) wz rfl ?_))))))))))))))))))
   obtain ⟨q_6,hz_7,hF⟩:=bind_some hF
   refine OW rfl rfl hz_7 wz (ae (vI q_6) wz rfl (aj (aL (H0:=([(n_3,some (.cells 8 [(vS c_1.Key),(vS c_1.Class),(vI c_1.Time.From),(vI c_1.Time.To),(vL eS c_1.Tags),(vI c_1.Goal),(vI c_1.Most),(vI c_1.Cents)]))]:Hp)) ([(4,(vI q_6))]:SL_) (by kernel_rfl) (uP (by kernel_rfl)) ?_)))
   obtain rfl:=ah hF
   exact aG (aU (.inr rfl) [(vI q_6)] ⟨rfl,trivial⟩ rfl rfl rfl)
theorem Fu {c_1:Campaign} {atv_2:Int} {r:Int×Int} (hF:qP c_1 atv_2=some r) :
  FnM Tryz.prog 24 [(.d (.agg (Campaign.enc c_1))),(vI atv_2)] [] (.tup [(vI r.1),(vI r.2)]) []:=by
 refine FnM.of_wH ⟨Tryz.prog,19,[],[]⟩ rfl Tryz.func24 rfl rfl (lb_ rfl) (by kernel_rfl) ?_
 unfold qP at hF
 refine af (aa (dL 0 (.inl rfl) [(vS c_1.Key),(vS c_1.Class),(vI c_1.Time.From),(vI c_1.Time.To),(vL eS c_1.Tags),(vI c_1.Goal),(vI c_1.Most),(vI c_1.Cents)] rfl rfl wz (λn_3=>ae (vI 0) wz rfl (ae (vI 0) wz rfl (aj (af (af (aa (aA 0 0 il ft sz73 ag73 rfl rfl (.d (.agg (Campaign.enc c_1))) rfl wz (dW (([c_1]:List Campaign).map Campaign.enc) PY ez109 rfl rfl rfl rfl rfl wz ?_))))))))))
 obtain ⟨r_4,hr_5,hF⟩:=bind_some hF
 refine aI (ut hr_5) rfl hb51 rfl rfl rfl rfl wz (ae (vI r_4) wz rfl (aj (af (aa (ae (vI r_4) wz rfl (ae (vB (r_4 != 0)) wz rfl (aj ?_)))))))
 rcases au hF with⟨hc_6,hF⟩|⟨hc_6,hF⟩
 ·refine aC rfl hc_6 (af (aa (ae (vI r_4) wz rfl (ae (vI 0) wz rfl (ae (vI r_4) wz rfl (aj ?_))))))
  obtain rfl:=ah hF
  exact aG (aU (.inr rfl) [(vI 0),(vI r_4)] ⟨rfl,⟨rfl,trivial⟩⟩ rfl rfl rfl)
 ·refine aB rfl hc_6 (ax (af (af (aa (ae (vI atv_2) wz rfl ?_)))))
  obtain ⟨r_7,hr_8,hF⟩:=bind_some hF
  refine aI (jk hr_8) rfl Lb rfl rfl rfl rfl wz (ae (vB (!r_7)) wz rfl (aj ?_))
  rcases au hF with⟨hc_9,hF⟩|⟨hc_9,hF⟩
  ·refine aC rfl hc_9 (af (aa (ae (vI 0) wz rfl (ae (vI 1) wz rfl (aj ?_)))))
   obtain rfl:=ah hF
   exact aG (aU (.inr rfl) [(vI 0),(vI 1)] ⟨rfl,⟨rfl,trivial⟩⟩ rfl rfl rfl)
  ·refine aB rfl hc_9 (ax (af (aa (aA 0 0 il ft sz73 ag73 rfl rfl (.d (.agg (Campaign.enc c_1))) rfl wz (ae (vI atv_2) wz rfl ?_)))))
   obtain ⟨r_10,hr_11,hF⟩:=bind_some hF
   refine aI (Ef hr_11) rfl hb53 rfl rfl rfl rfl wz (ae (vI r_10) wz rfl (ae (vI 0) wz rfl (aj ?_)))
   obtain rfl:=ah hF
   exact aG (aU (.inr rfl) [(vI r_10),(vI 0)] ⟨rfl,⟨rfl,trivial⟩⟩ rfl rfl rfl)
theorem xy {a_1:Beat} {b_2:Beat} {r:Int} (hF:lM a_1 b_2=some r) :
  FnM Tryz.prog 130 [(.d (.agg (Beat.enc a_1))),(.d (.agg (Beat.enc b_2)))] [] (vI r) []:=by
 refine FnM.of_wH ⟨Tryz.prog,17,[],[]⟩ rfl Tryz.func130 rfl rfl (lb_ rfl) (by kernel_rfl) ?_
 unfold lM at hF
 refine af (aa (dL 0 (.inl rfl) [(vS a_1.Player),(vI a_1.At),(vI a_1.Clock)] rfl rfl wz (λn_3=>dL 0 (.inl rfl) [(vS b_2.Player),(vI b_2.At),(vI b_2.Clock)] rfl rfl wz (λn_4=>ae (vI 0) wz rfl (aj (af (aW (aH BQ rfl 0 rfl wz (aA 1 0 (.inr (by kernel_rfl)) (λ_ _ ag=>trivial) sz9 ag9 rfl rfl (vS a_1.Player) rfl wz (aH BQ rfl 0 rfl wz (aA 3 1 (.inr (by kernel_rfl)) (λ_ _ ag=>⟨.inl ⟨rfl,rfl⟩,trivial⟩) sz9 ag9 rfl rfl (vS b_2.Player) rfl wz ?_)))))))))))
 obtain ⟨r_5,hr_6,hF⟩:=bind_some hF
 refine aI (lI hr_6) rfl hb82 rfl rfl rfl rfl wz (aH EO rfl 1 rfl wz (aA 6 0 (.inr (by kernel_rfl)) (λ_ _ ag=>⟨.inl ⟨rfl,rfl⟩,⟨.inl ⟨rfl,rfl⟩,trivial⟩⟩) sz3 ag3 rfl rfl (vI a_1.At) rfl wz (aH EO rfl 1 rfl wz (aA 8 1 (.inr (by kernel_rfl)) (λ_ _ ag=>⟨.inl ⟨rfl,rfl⟩,⟨.inl ⟨rfl,rfl⟩,⟨.inl ⟨rfl,rfl⟩,trivial⟩⟩⟩) sz3 ag3 rfl rfl (vI b_2.At) rfl wz ?_))))
 obtain ⟨r_7,hr_8,hF⟩:=bind_some hF
 refine aI (gM hr_8) rfl Lu rfl rfl rfl rfl wz (dW (([r_5,r_7]:List Int).map eI) jf uh rfl rfl rfl rfl rfl wz ?_)
 obtain ⟨r_9,hr_10,hF⟩:=bind_some hF
 refine aI (qK hr_10) rfl hb81 rfl rfl rfl rfl wz (ae (vI r_9) wz rfl (aj ?_))
 obtain rfl:=ah hF
 exact aG (aU (.inr rfl) [(vI r_9)] ⟨rfl,trivial⟩ rfl rfl rfl)
theorem zn {l_1:(List Beat)} {r:Int} (hF:kM l_1=some r) :
  FnM Tryz.prog 90 [(vL Beat.enc l_1)] [] (vI r) []:=by
 refine FnM.of_wH ⟨Tryz.prog,69,[],[]⟩ rfl Tryz.func90 rfl rfl (lb_ rfl) (by kernel_rfl) ?_
 unfold kM at hF
 refine af (aa (ae (vI 0) wz rfl (aj (af (af (aa (ae (vL Beat.enc l_1) wz rfl (bW un77 rfl wz (ae (vB (decide ((l_1.length:Int)>500))) wz rfl (aj ?_))))))))))
 rcases au hF with⟨hc_2,hF⟩|⟨hc_2,hF⟩
 ·refine aC rfl hc_2 (af (aa (ae (vI 2) wz rfl (aj ?_))))
  obtain rfl:=ah hF
  exact aG (aU (.inr rfl) [(vI 2)] ⟨rfl,trivial⟩ rfl rfl rfl)
 ·refine aB rfl hc_2 (ax (af (af (aa (ae (vL Beat.enc l_1) wz rfl (bW un77 rfl wz (ae (vI 0) wz rfl (aj ?_))))))))
  obtain ⟨o_11,hj_12,hF⟩:=bind_some hF
  obtain ⟨hn_7,hj_12⟩:=aV hj_12
  refine aD (β:=(Unit)) (λ(s_8:Unit)=>([]:SL_)) (λ(s_8:Unit)=>([]:Hp)) (λp=>o_11 = .go p) ?_ ?_
  ·refine ay (aS (β:=Nat×(List Beat)×(Unit)) (λp=>(λ(k_3:Nat) (l_4:List Beat) (s_8:Unit)=>([(0,(vL Beat.enc l_1)),(8,(vL Beat.enc l_1)),(9,(vI (l_1.length:Int))),(10,(vI (k_3:Int)))]:SL_)) p.1 p.2.1 p.2.2) (λp=>(λ(k_3:Nat) (l_4:List Beat) (s_8:Unit)=>([]:Hp)) p.1 p.2.1 p.2.2) (λp=>forR (λk x s=>jB l_1 k x s) p.2.1 p.1 p.2.2=some o_11/\(l_1).drop p.1=p.2.1) (λp=>p.2.1.length) (0,l_1,()) ⟨hj_12,rfl⟩ rfl (aJ rfl) ?_)
   rintro ⟨k_3,l_4,s_8⟩ ⟨hL_10,hD_6⟩
   dsimp only at hL_10 hD_6
   cases l_4 with
   | nil =>
    obtain rfl:=ah hL_10
    refine af (aa (ae (vB (decide ((k_3:Int)<(l_1.length:Int)))) wz rfl (aj ?_)))
    refine af (aB rfl (drop_nil hD_6) (aP ?_))
    exact aN (s_8) rfl rfl (aJ rfl)
   | cons x_5 l_4 =>
    obtain ⟨c_,hc_9,hL_10⟩:=bind_some hL_10
    refine af (aa (ae (vB (decide ((k_3:Int)<(l_1.length:Int)))) wz rfl (aj ?_)))
    refine af (aC rfl (bf hD_6) (ax ?_))
    unfold jB at hc_9
    refine af (ay (af (aa (ae (vI (k_3:Int)) wz rfl (dK Nz rfl rfl (bG hD_6) rfl wz (bB Nr ag76 rfl (.d (.agg (Beat.enc x_5))) rfl wz (cK 0 (.inl rfl) z76 rfl wz (λn_13=>ae (vI (k_3:Int)) wz rfl (eD 0 il ft 0 Nr rfl rfl [(vS x_5.Player),(vI x_5.At),(vI x_5.Clock)] rfl wz (aj (ay (af (aa (aH BQ rfl 0 rfl wz (aA 0 0 il ft sz9 ag9 rfl rfl (vS x_5.Player) rfl wz ?_)))))))))))))))
    obtain ⟨r_14,hr_15,hc_9⟩:=bind_some hc_9
    refine aI (fT hr_15) rfl BJ rfl rfl rfl rfl wz (ae (vB (!r_14)) wz rfl (ae (vB (!r_14)) wz rfl (aj ?_)))
    rcases au hc_9 with⟨hc_16,hc_9⟩|⟨hc_16,hc_9⟩
    ·refine aC rfl hc_16 (af (aa (ae (vI 5) wz rfl (aj ?_))))
     obtain rfl:=ah hc_9
     obtain rfl:=ah hL_10
     obtain rfl:=ah hF
     exact aG (aU (.inr rfl) [(vI 5)] ⟨rfl,trivial⟩ rfl rfl rfl)
    ·refine aB rfl hc_16 (af ?_)
     obtain ⟨v_17,h_18,hc_9⟩:=bind_some hc_9
     refine aD (β:=Unit) (λ_=>([(0,(vL Beat.enc l_1)),(3,(vI (k_3:Int))),(4,(.ref n_13 0 0)),(8,(vL Beat.enc l_1)),(9,(vI (l_1.length:Int))),(10,(vI (k_3:Int))),(20,(vB v_17))]:SL_)) (λ_=>([(n_13,some (.cells 3 [(vS x_5.Player),(vI x_5.At),(vI x_5.Clock)]))]:Hp)) (λ_=>True) ?_ ?_
     ·refine aa (aH EO rfl 1 rfl wz (aA 0 0 il ft sz3 ag3 rfl rfl (vI x_5.At) rfl wz ?_))
      obtain ⟨r_19,hr_20,h_18⟩:=bind_some h_18
      refine aI (jk hr_20) rfl Lb rfl rfl rfl rfl wz (ae (vB (!r_19)) wz rfl ?_)
      rcases au h_18 with⟨hc_21,h_18⟩|⟨hc_21,h_18⟩
      ·refine aF rfl hc_21 wz (ak wa (ak wa (ak wa (ae (vB true) wz rfl (ae (vB true) wz rfl (aj ?_))))))
       obtain rfl:=ah h_18
       exact cu
      ·refine aF rfl hc_21 wz (aH DW rfl 2 rfl wa (aA 0 0 il ft sz3 ag3 rfl rfl (vI x_5.Clock) rfl wa ?_))
       obtain ⟨r_22,hr_23,h_18⟩:=bind_some h_18
       refine aI (bg hr_23) rfl rA rfl rfl rfl rfl wa (ae (vB r_22) wz rfl (ae (vB r_22) wz rfl (aj ?_)))
       obtain rfl:=ah h_18
       exact cu
     ·rintro ⟨⟩ _ sl_ H_ hp_ hq_
      refine aL _ hp_ hq_ ?_
      rcases au hc_9 with⟨hc_24,hc_9⟩|⟨hc_24,hc_9⟩
      ·refine aC rfl hc_24 (af (aa (ae (vI 1) wz rfl (aj ?_))))
       obtain rfl:=ah hc_9
       obtain rfl:=ah hL_10
       obtain rfl:=ah hF
       exact aG (aU (.inr rfl) [(vI 1)] ⟨rfl,trivial⟩ rfl rfl rfl)
      ·refine aB rfl hc_24 (af ?_)
       obtain ⟨v_25,h_26,hc_9⟩:=bind_some hc_9
       refine aD (β:=Unit) (λ_=>([(0,(vL Beat.enc l_1)),(3,(vI (k_3:Int))),(4,(.ref n_13 0 0)),(8,(vL Beat.enc l_1)),(9,(vI (l_1.length:Int))),(10,(vI (k_3:Int))),(30,(vB v_25))]:SL_)) (λ_=>([(n_13,some (.cells 3 [(vS x_5.Player),(vI x_5.At),(vI x_5.Clock)]))]:Hp)) (λ_=>True) ?_ ?_
       ·refine aW (ae (vI (k_3:Int)) wz rfl (ae (vB (decide ((k_3:Int)>0))) wz rfl ?_))
        rcases au h_26 with⟨hc_27,h_26⟩|⟨hc_27,h_26⟩
        ·refine aF rfl hc_27 wz (ae (vL Beat.enc l_1) wa rfl (ae (vI (k_3:Int)) wa rfl (ae (vI (w64 ((k_3:Int)-1))) wa rfl ?_)))
         obtain ⟨y_28,hy_29,h_26⟩:=bind_some h_26
         refine dK Nz rfl rfl hy_29 rfl wa (bB Nr ag76 rfl (.d (.agg (Beat.enc y_28))) rfl wa (aA 8 0 (.inr (by kernel_rfl)) (λ_ _ ag=>trivial) Nr ag76 rfl rfl (.d (.agg (Beat.enc x_5))) rfl wa ?_))
         obtain ⟨r_30,hr_31,h_26⟩:=bind_some h_26
         refine aI (xy hr_31) rfl hb130 rfl rfl rfl rfl wa (ae (vB (decide (r_30>=0))) wa rfl (ae (vB (decide (r_30>=0))) wz rfl (ae (vB (decide (r_30>=0))) wz rfl (aj ?_))))
         obtain rfl:=ah h_26
         exact cu
        ·refine aF rfl hc_27 wz (ak wa (ak wa (ak wa (ak wa (ak wa (ak wa (ak wa (ak wa (ae (vB false) wz rfl (ae (vB false) wz rfl (aj ?_)))))))))))
         obtain rfl:=ah h_26
         exact cu
       ·rintro ⟨⟩ _ sl_ H_ hp_ hq_
        refine aL _ hp_ hq_ ?_
        rcases au hc_9 with⟨hc_32,hc_9⟩|⟨hc_32,hc_9⟩
        ·refine aC rfl hc_32 (af (aa (ae (vI 7) wz rfl (aj ?_))))
         obtain rfl:=ah hc_9
         obtain rfl:=ah hL_10
         obtain rfl:=ah hF
         exact aG (aU (.inr rfl) [(vI 7)] ⟨rfl,trivial⟩ rfl rfl rfl)
        ·refine aB rfl hc_32 (af ?_)
         obtain ⟨v_33,h_34,hc_9⟩:=bind_some hc_9
         refine aD (β:=Unit) (λ_=>([(0,(vL Beat.enc l_1)),(8,(vL Beat.enc l_1)),(9,(vI (l_1.length:Int))),(10,(vI (k_3:Int))),(43,(vB v_33))]:SL_)) (λ_=>([(n_13,some (.cells 3 [(vS x_5.Player),(vI x_5.At),(vI x_5.Clock)]))]:Hp)) (λ_=>True) ?_ ?_
         ·refine aW (ae (vI (k_3:Int)) wz rfl (ae (vB (decide ((k_3:Int)>0))) wz rfl ?_))
          rcases au h_34 with⟨hc_35,h_34⟩|⟨hc_35,h_34⟩
          ·refine aF rfl hc_35 wz (aH BQ rfl 0 rfl wa (aA 4 0 (.inr (by kernel_rfl)) (λ_ _ ag=>trivial) sz9 ag9 rfl rfl (vS x_5.Player) rfl wa (ae (vL Beat.enc l_1) wa rfl (ae (vI (k_3:Int)) wa rfl (ae (vI (w64 ((k_3:Int)-1))) wa rfl ?_)))))
           obtain ⟨y_36,hy_37,h_34⟩:=bind_some h_34
           refine dK Nz rfl rfl hy_37 rfl wa (og BQ rfl [.str y_36.Player,.int .i64 y_36.At,.int .i64 y_36.Clock] rfl rfl wa (bB sz9 ag9 rfl (vS y_36.Player) rfl wa (ae (vB (sEq x_5.Player y_36.Player)) wa rfl (ae (vB (sEq x_5.Player y_36.Player)) wz rfl ?_))))
           rcases au h_34 with⟨hc_38,h_34⟩|⟨hc_38,h_34⟩
           ·refine aF rfl hc_38 wz (aH DW rfl 2 rfl wa (aA 15 0 (.inr (by kernel_rfl)) (λ_ _ ag=>⟨.inl ⟨rfl,rfl⟩,trivial⟩) sz3 ag3 rfl rfl (vI x_5.Clock) rfl wa (ae (vL Beat.enc l_1) wa rfl (ae (vI (k_3:Int)) wa rfl (ae (vI (w64 ((k_3:Int)-1))) wa rfl ?_)))))
            obtain ⟨y_39,hy_40,h_34⟩:=bind_some h_34
            refine dK Nz rfl rfl hy_40 rfl wa (og DW rfl [.int .i64 y_39.Clock] rfl rfl wa (bB sz3 ag3 rfl (vI y_39.Clock) rfl wa (ae (vB (decide (x_5.Clock<=y_39.Clock))) wa rfl (ae (vB (decide (x_5.Clock<=y_39.Clock))) wz rfl (ae (vB (decide (x_5.Clock<=y_39.Clock))) wz rfl (aj ?_))))))
            obtain rfl:=ah h_34
            exact cu
           ·refine aF rfl hc_38 wz (ak wa (ak wa (ak wa (ak wa (ak wa (ak wa (ak wa (ak wa (ak wa (ae (vB false) wz rfl (ae (vB false) wz rfl (aj ?_))))))))))))
            obtain rfl:=ah h_34
            exact cu
          ·refine aF rfl hc_35 wz (ak wa (ak wa (ak wa (ak wa (ak wa (ak wa (ak wa (ak wa (ak wa (ae (vB false) wz rfl (ae (vB false) wz rfl (ak wa (ak wa (ak wa (ak wa (ak wa (ak wa (ak wa (ak wa (ak wa (ae (vB false) wz rfl (ae (vB false) wz rfl (aj ?_)))))))))))))))))))))))
           obtain rfl:=ah h_34
           exact cu
         ·rintro ⟨⟩ _ sl_ H_ hp_ hq_
          refine aL _ hp_ hq_ ?_
          rcases au hc_9 with⟨hc_41,hc_9⟩|⟨hc_41,hc_9⟩
          ·refine aC rfl hc_41 (af (aa (ae (vI 16) wz rfl (aj ?_))))
           obtain rfl:=ah hc_9
           obtain rfl:=ah hL_10
           obtain rfl:=ah hF
           exact aG (aU (.inr rfl) [(vI 16)] ⟨rfl,trivial⟩ rfl rfl rfl)
          ·refine aB rfl hc_41 (ax (aa (fu (bA hD_6 hn_7) wz rfl (ae (vI ((k_3+1:Nat):Int)) wz rfl (aj ?_)))))
           obtain rfl:=ah hc_9
           exact aO (k_3+1,l_4,()) ⟨hL_10,aR hD_6⟩ (ls_ _) rfl (aJ rfl)
  ·rintro s_8 ho_ sl_ H_ hp_ hq_
   subst ho_
   refine aL _ hp_ hq_ (af (aa (ae (vI 0) wz rfl (aj ?_))))
   obtain rfl:=ah hF
   exact aG (aU (.inr rfl) [(vI 0)] ⟨rfl,trivial⟩ rfl rfl rfl)
theorem Ct {l_1:(List Beat)} {player_2:ByteArray} {back_3:Bool} {r:(List Beat_)} (hF:qM l_1 player_2 back_3=some r) :
  FnM Tryz.prog 92 [(vL Beat.enc l_1),(vS player_2),(vB back_3)] [] (vL Beat_.enc r) []:=by
 refine FnM.of_wH ⟨Tryz.prog,41,[],[]⟩ rfl Tryz.func92 rfl rfl (lb_ rfl) (by kernel_rfl) ?_
 unfold qM at hF
 refine af (aa (ae .nil wz rfl (aj (af (aa (ae .nil wz rfl (aj (af (af (aa (ae (vL Beat.enc l_1) wz rfl (bW un77 rfl wz (ae (vI 0) wz rfl (aj (kg (λn_10 => ?_))))))))))))))))
 obtain ⟨o_15,hj_16,hF⟩:=bind_some hF
 obtain ⟨hn_8,hj_16⟩:=aV hj_16
 refine aD (β:=((List Beat_))×Nm) (λp=>(λ(s_9:List Beat_) (n_12:Nm)=>([(7,(gV n_12 2 s_9))]:SL_)) p.1 p.2) (λp=>(λ(s_9:List Beat_) (n_12:Nm)=>([(n_12,gB 2 Beat_.enc s_9)]:Hp)) p.1 p.2) (λp=>o_15 = .go p.1) ?_ ?_
 ·refine ay (aS (β:=Nat×(List Beat)×((List Beat_))×Nm) (λp=>(λ(k_4:Nat) (l_5:List Beat) (s_9:List Beat_) (n_12:Nm)=>([(1,(vS player_2)),(2,(vB back_3)),(7,(gV n_12 2 s_9)),(10,(vL Beat.enc l_1)),(11,(vI (l_1.length:Int))),(12,(vI (k_4:Int)))]:SL_)) p.1 p.2.1 p.2.2.1 p.2.2.2) (λp=>(λ(k_4:Nat) (l_5:List Beat) (s_9:List Beat_) (n_12:Nm)=>([(n_12,gB 2 Beat_.enc s_9)]:Hp)) p.1 p.2.1 p.2.2.1 p.2.2.2) (λp=>forR (λk x s=>qz player_2 back_3 k x s) p.2.1 p.1 p.2.2.1=some o_15/\(l_1).drop p.1=p.2.1) (λp=>p.2.1.length) (0,l_1,([]:List Beat_),n_10) ⟨hj_16,rfl⟩ rfl (aJ rfl) ?_)
  rintro ⟨k_4,l_5,s_9,n_12⟩ ⟨hL_14,hD_7⟩
  dsimp only at hL_14 hD_7
  cases l_5 with
  | nil =>
   obtain rfl:=ah hL_14
   refine af (aa (ae (vB (decide ((k_4:Int)<(l_1.length:Int)))) wz rfl (aj ?_)))
   refine af (aB rfl (drop_nil hD_7) (aP ?_))
   exact aN (s_9,n_12) rfl rfl (aJ rfl)
  | cons x_6 l_5 =>
   obtain ⟨c_,hc_13,hL_14⟩:=bind_some hL_14
   refine af (aa (ae (vB (decide ((k_4:Int)<(l_1.length:Int)))) wz rfl (aj ?_)))
   refine af (aC rfl (bf hD_7) (ax ?_))
   unfold qz at hc_13
   refine af (ay (af (aa (dK Nz rfl rfl (bG hD_7) rfl wz (bB Nr ag76 rfl (.d (.agg (Beat.enc x_6))) rfl wz (cK 0 (.inl rfl) z76 rfl wz (λn_17=>eD 0 il ft 1 Nr rfl rfl [(vS x_6.Player),(vI x_6.At),(vI x_6.Clock)] rfl wz (aj (ay (af (aa (aH BQ rfl 0 rfl wz (aA 0 1 il ft sz9 ag9 rfl rfl (vS x_6.Player) rfl wz (ae (vS player_2) wz rfl (ae (vB (sNe x_6.Player player_2)) wz rfl (ae (vB (sNe x_6.Player player_2)) wz rfl (aj ?_)))))))))))))))))
   obtain ⟨v_18,h_19,hc_13⟩:=bind_some hc_13
   refine aD (β:=Nm) (λ(n_20:Nm)=>([(1,(vS player_2)),(2,(vB back_3)),(7,(gV n_20 2 v_18)),(10,(vL Beat.enc l_1)),(11,(vI (l_1.length:Int))),(12,(vI (k_4:Int)))]:SL_)) (λ(n_20:Nm)=>([(n_20,gB 2 Beat_.enc v_18),(n_17,some (.cells 3 [(vS x_6.Player),(vI x_6.At),(vI x_6.Clock)]))]:Hp)) (λ_=>True) ?_ ?_
   ·rcases au h_19 with⟨hc_21,h_19⟩|⟨hc_21,h_19⟩
    ·refine aC rfl hc_21 (ax ?_)
     obtain rfl:=ah h_19
     exact aN n_12 trivial rfl (aJ rfl)
    ·refine aB rfl hc_21 (af (aa (ae (vB back_3) wz rfl (ae (vB back_3) wz rfl (aj ?_)))))
     rcases au h_19 with⟨hc_22,h_19⟩|⟨hc_22,h_19⟩
     ·refine aC rfl hc_22 (aa (ae (gV n_12 2 s_9) wz rfl (aH EO rfl 1 rfl wz (aA 0 1 il ft sz3 ag3 rfl rfl (vI x_6.At) rfl wz (aH DW rfl 2 rfl wz (aA 0 1 il ft sz3 ag3 rfl rfl (vI x_6.Clock) rfl wz (ae (.d (.agg (Beat_.enc (⟨x_6.At,x_6.Clock⟩:Beat_)))) wz (by kernel_rfl) (dW (([(⟨x_6.At,x_6.Clock⟩:Beat_)]:List Beat_).map Beat_.enc) Bb ez150 rfl rfl rfl rfl rfl wz ?_))))))))
      obtain ⟨a_23,hz_24,h_19⟩:=bind_some h_19
      refine jS 0 il ft (i:=0) Md Md Gp z183 rfl (by decide) by183 (by decide) (λ_=>rfl) rfl rfl rfl hz_24 wz (λn_25=>ae (gV n_25 2 a_23) wz rfl (aj ?_))
      obtain rfl:=ah h_19
      exact aN n_25 trivial rfl (aJ rfl)
     ·refine aB rfl hc_22 (aa (ae (gV n_12 2 s_9) wz rfl (aH DW rfl 2 rfl wz (aA 0 1 il ft sz3 ag3 rfl rfl (vI x_6.Clock) rfl wz (aH EO rfl 1 rfl wz (aA 0 1 il ft sz3 ag3 rfl rfl (vI x_6.At) rfl wz (ae (.d (.agg (Beat_.enc (⟨x_6.Clock,x_6.At⟩:Beat_)))) wz (by kernel_rfl) (dW (([(⟨x_6.Clock,x_6.At⟩:Beat_)]:List Beat_).map Beat_.enc) Bb ez150 rfl rfl rfl rfl rfl wz ?_))))))))
      obtain ⟨a_26,hz_27,h_19⟩:=bind_some h_19
      refine jS 0 il ft (i:=0) Md Md Gp z183 rfl (by decide) by183 (by decide) (λ_=>rfl) rfl rfl rfl hz_27 wz (λn_28=>ae (gV n_28 2 a_26) wz rfl (aj ?_))
      obtain rfl:=ah h_19
      exact aN n_28 trivial rfl (aJ rfl)
   ·rintro n_20 _ sl_ H_ hp_ hq_
    refine aL _ hp_ hq_ (aa (fu (bA hD_7 hn_8) wz rfl (ae (vI ((k_4+1:Nat):Int)) wz rfl (aj ?_))))
    obtain rfl:=ah hc_13
    exact aO (k_4+1,l_5,v_18,n_20) ⟨hL_14,aR hD_7⟩ (ls_ _) rfl (aJ rfl)
 ·rintro ⟨s_9,n_12⟩ ho_ sl_ H_ hp_ hq_
  subst ho_
  refine aL _ hp_ hq_ (af (aa (ae (gV n_12 2 s_9) wz rfl (ae (gV n_12 2 s_9) wz rfl (aj (gJ 0 rfl (dJ 6 0 rfl rfl (dJ 7 0 rfl rfl (dJ 40 0 rfl rfl ?_)))))))))
  obtain rfl:=ah hF
  exact aG (aU (.inr rfl) [(vL Beat_.enc s_9)] ⟨rfl,trivial⟩ rfl rfl rfl)
theorem Db {l_1:(List Beat_)} {n_2:Int} {r:Int×Int} (hF:pu l_1 n_2=some r) :
  FnM Tryz.prog 91 [(vL Beat_.enc l_1),(vI n_2)] [] (.tup [(vI r.1),(vI r.2)]) []:=by
 refine FnM.of_wH ⟨Tryz.prog,108,[],[]⟩ rfl Tryz.func91 rfl rfl (lb_ rfl) (by kernel_rfl) ?_
 unfold pu at hF
 refine af (aa (ae (vI 0) wz rfl (ae (vI 0) wz rfl (aj (af (af (aa (ae (vL Beat_.enc l_1) wz rfl (bW Pw rfl wz (ae (vB ((l_1.length:Int)==0)) wz rfl (aj ?_)))))))))))
 rcases au hF with⟨hc_3,hF⟩|⟨hc_3,hF⟩
 ·refine aC rfl hc_3 (af (aa (ae (vI 0) wz rfl (ae (vI 8) wz rfl (aj ?_)))))
  obtain rfl:=ah hF
  exact aG (aU (.inr rfl) [(vI 0),(vI 8)] ⟨rfl,⟨rfl,trivial⟩⟩ rfl rfl rfl)
 ·refine aB rfl hc_3 (ax (af (aa (ae (vI 0) wz rfl (aj (af ?_))))))
  obtain ⟨o_12,hj_13,hF⟩:=bind_some hF
  obtain ⟨nq_51,hj_13⟩:=bR hj_13
  refine aD (β:=(Int)) (λ(s_9:Int)=>([(0,(vL Beat_.enc l_1)),(1,(vI n_2)),(6,(vI s_9))]:SL_)) (λ(s_9:Int)=>([]:Hp)) (λp=>o_12 = .go p) ?_ ?_
  ·refine ay (aS (β:=Nat×(Int)) (λp=>(λ(k_4:Nat) (s_9:Int)=>([(0,(vL Beat_.enc l_1)),(1,(vI n_2)),(6,(vI s_9))]:SL_)) p.1 p.2) (λp=>(λ(k_4:Nat) (s_9:Int)=>([]:Hp)) p.1 p.2) (λp=>iterN (λs=>oG l_1 n_2 s) p.1 p.2=some o_12) (λp=>p.1) (nq_51,0) hj_13 rfl (aJ rfl) ?_)
   rintro ⟨k_4,s_9⟩ hL_11
   dsimp only at hL_11
   cases k_4 with
   | zero=>cases hL_11
   | succ k_4 =>
    obtain ⟨c_,hc_10,hL_11⟩:=bind_some hL_11
    unfold oG at hc_10
    refine af (af ?_)
    obtain ⟨v_14,h_15,hc_10⟩:=bind_some hc_10
    refine aD (β:=Unit) (λ_=>([(0,(vL Beat_.enc l_1)),(1,(vI n_2)),(6,(vI s_9)),(25,(vB v_14))]:SL_)) (λ_=>([]:Hp)) (λ_=>True) ?_ ?_
    ·refine aa (ae (vI s_9) wz rfl (ae (vL Beat_.enc l_1) wz rfl (bW Pw rfl wz (ae (vB (decide (s_9<(l_1.length:Int)))) wz rfl ?_))))
     rcases au h_15 with⟨hc_16,h_15⟩|⟨hc_16,h_15⟩
     ·refine aF rfl hc_16 wz (ae (vL Beat_.enc l_1) wa rfl (ae (vI s_9) wa rfl ?_))
      obtain ⟨y_17,hy_18,h_15⟩:=bind_some h_15
      refine dK Bb rfl rfl hy_18 rfl wa (og uy rfl [.int .i64 y_17.f_from,.int .i64 y_17.f_to] rfl rfl wa (bB sz3 ag3 rfl (vI y_17.f_from) rfl wa (ae (vI n_2) wa rfl (ae (vB (decide (y_17.f_from<=n_2))) wa rfl (ae (vB (decide (y_17.f_from<=n_2))) wz rfl (aj ?_))))))
      obtain rfl:=ah h_15
      exact cu
     ·refine aF rfl hc_16 wz (ak wa (ak wa (ak wa (ak wa (ak wa (ak wa (ak wa (ae (vB false) wz rfl (aj ?_)))))))))
      obtain rfl:=ah h_15
      exact cu
    ·rintro ⟨⟩ _ sl_ H_ hp_ hq_
     refine aL _ hp_ hq_ ?_
     rcases au hc_10 with⟨hc_19,hc_10⟩|⟨hc_19,hc_10⟩
     ·refine aC rfl hc_19 (ax (ay (aa (ae (vI s_9) wz rfl (ae (vI (w64 (s_9+1))) wz rfl (ae (vI (w64 (s_9+1))) wz rfl (aj ?_)))))))
      obtain rfl:=ah hc_10
      exact aO (k_4,(w64 (s_9+1))) hL_11 (ls_ _) rfl (aJ rfl)
     ·refine aB rfl hc_19 (aP ?_)
      obtain rfl:=ah hc_10
      obtain rfl:=ah hL_11
      exact aN (s_9) rfl rfl (aJ rfl)
  ·rintro s_9 ho_ sl_ H_ hp_ hq_
   subst ho_
   refine aL _ hp_ hq_ (af (aa (ae (vI 0) wz rfl (aj (af (ay (af (aa (ae (vI s_9) wz rfl (ae (vB (s_9==0)) wz rfl (ae (vB (s_9==0)) wz rfl (aj ?_))))))))))))
   rcases au hF with⟨hc_20,hF⟩|⟨hc_20,hF⟩
   ·refine aC rfl hc_20 (aW (ae (vL Beat_.enc l_1) wz rfl ?_))
    obtain ⟨y_21,hy_22,hF⟩:=bind_some hF
    refine dK Bb rfl rfl hy_22 rfl wz (og wV rfl [.int .i64 y_21.f_to] rfl rfl wz (bB sz3 ag3 rfl (vI y_21.f_to) rfl wz (ae (vL Beat_.enc l_1) wz rfl ?_)))
    obtain ⟨y_23,hy_24,hF⟩:=bind_some hF
    refine dK Bb rfl rfl hy_24 rfl wz (og uy rfl [.int .i64 y_23.f_from,.int .i64 y_23.f_to] rfl rfl wz (bB sz3 ag3 rfl (vI y_23.f_from) rfl wz (ae (vI n_2) wz rfl (ae (vI (w64 (y_23.f_from-n_2))) wz rfl (ae (vI (w64 (y_21.f_to-(w64 (y_23.f_from-n_2))))) wz rfl (ae (vI (w64 (y_21.f_to-(w64 (y_23.f_from-n_2))))) wz rfl (aj (af (af (aa (ae (vI (w64 (y_21.f_to-(w64 (y_23.f_from-n_2))))) wz rfl ?_)))))))))))
    obtain ⟨r_25,hr_26,hF⟩:=bind_some hF
    refine aI (jk hr_26) rfl Lb rfl rfl rfl rfl wz (ae (vB (!r_25)) wz rfl (aj ?_))
    rcases au hF with⟨hc_27,hF⟩|⟨hc_27,hF⟩
    ·refine aC rfl hc_27 (af (aa (ae (vI 0) wz rfl (ae (vI 11) wz rfl (aj ?_)))))
     obtain rfl:=ah hF
     exact aG (aU (.inr rfl) [(vI 0),(vI 11)] ⟨rfl,⟨rfl,trivial⟩⟩ rfl rfl rfl)
    ·refine aB rfl hc_27 (ax (af (aa (ae (vI (w64 (y_21.f_to-(w64 (y_23.f_from-n_2))))) wz rfl (ae (vI (w64 (y_21.f_to-(w64 (y_23.f_from-n_2))))) wz rfl (ae (vI 0) wz rfl (aj ?_)))))))
     obtain rfl:=ah hF
     exact aG (aU (.inr rfl) [(vI (w64 (y_21.f_to-(w64 (y_23.f_from-n_2))))),(vI 0)] ⟨rfl,⟨rfl,trivial⟩⟩ rfl rfl rfl)
   ·refine aB rfl hc_20 (af (aa (ae (vI s_9) wz rfl (ae (vL Beat_.enc l_1) wz rfl (bW Pw rfl wz (ae (vB (s_9==(l_1.length:Int))) wz rfl (ae (vB (s_9==(l_1.length:Int))) wz rfl (aj ?_))))))))
    rcases au hF with⟨hc_28,hF⟩|⟨hc_28,hF⟩
    ·refine aC rfl hc_28 (aW (ae (vL Beat_.enc l_1) wz rfl (ae (vI s_9) wz rfl (ae (vI (w64 (s_9-1))) wz rfl ?_))))
     obtain ⟨y_29,hy_30,hF⟩:=bind_some hF
     refine dK Bb rfl rfl hy_30 rfl wz (og wV rfl [.int .i64 y_29.f_to] rfl rfl wz (bB sz3 ag3 rfl (vI y_29.f_to) rfl wz (ae (vI n_2) wz rfl (ae (vI (w64 (y_29.f_to+n_2))) wz rfl (ae (vL Beat_.enc l_1) wz rfl (ae (vI s_9) wz rfl (ae (vI (w64 (s_9-1))) wz rfl ?_)))))))
     obtain ⟨y_31,hy_32,hF⟩:=bind_some hF
     refine dK Bb rfl rfl hy_32 rfl wz (og uy rfl [.int .i64 y_31.f_from,.int .i64 y_31.f_to] rfl rfl wz (bB sz3 ag3 rfl (vI y_31.f_from) rfl wz (ae (vI (w64 ((w64 (y_29.f_to+n_2))-y_31.f_from))) wz rfl (ae (vI (w64 ((w64 (y_29.f_to+n_2))-y_31.f_from))) wz rfl (aj (af (af (aa (ae (vI (w64 ((w64 (y_29.f_to+n_2))-y_31.f_from))) wz rfl ?_)))))))))
     obtain ⟨r_33,hr_34,hF⟩:=bind_some hF
     refine aI (jk hr_34) rfl Lb rfl rfl rfl rfl wz (ae (vB (!r_33)) wz rfl (aj ?_))
     rcases au hF with⟨hc_35,hF⟩|⟨hc_35,hF⟩
     ·refine aC rfl hc_35 (af (aa (ae (vI 0) wz rfl (ae (vI 11) wz rfl (aj (aL (H0:=([]:Hp)) ([(4,(vI 0)),(5,(vI 11))]:SL_) (by kernel_rfl) (uP (by kernel_rfl)) ?_))))))
      obtain rfl:=ah hF
      exact aG (aU (.inr rfl) [(vI 0),(vI 11)] ⟨rfl,⟨rfl,trivial⟩⟩ rfl rfl rfl)
     ·refine aB rfl hc_35 (ax (af (aa (ae (vI (w64 ((w64 (y_29.f_to+n_2))-y_31.f_from))) wz rfl (ae (vI (w64 ((w64 (y_29.f_to+n_2))-y_31.f_from))) wz rfl (ae (vI 0) wz rfl (aj (aL (H0:=([]:Hp)) ([(4,(vI (w64 ((w64 (y_29.f_to+n_2))-y_31.f_from)))),(5,(vI 0))]:SL_) (by kernel_rfl) (uP (by kernel_rfl)) ?_))))))))
      obtain rfl:=ah hF
      exact aG (aU (.inr rfl) [(vI (w64 ((w64 (y_29.f_to+n_2))-y_31.f_from))),(vI 0)] ⟨rfl,⟨rfl,trivial⟩⟩ rfl rfl rfl)
    ·refine aB rfl hc_28 (af (aW (ae (vL Beat_.enc l_1) wz rfl (ae (vI s_9) wz rfl (ae (vI (w64 (s_9-1))) wz rfl ?_)))))
     obtain ⟨y_36,hy_37,hF⟩:=bind_some hF
     refine dK Bb rfl rfl hy_37 rfl wz (bB Gp ag183 rfl (.d (.agg (Beat_.enc y_36))) rfl wz (ae (vL Beat_.enc l_1) wz rfl (ae (vI s_9) wz rfl ?_)))
     obtain ⟨y_38,hy_39,hF⟩:=bind_some hF
     refine dK Bb rfl rfl hy_39 rfl wz (bB Gp ag183 rfl (.d (.agg (Beat_.enc y_38))) rfl wz (cK 9 (.inr (by kernel_rfl)) z183 rfl wz (λn_40=>cK 10 (.inr (by kernel_rfl)) z183 rfl wz (λn_41=>eD 11 (.inr (by kernel_rfl)) (λ_ _ ag=>⟨.inr (.inr (by kernel_rfl)),⟨.inr (.inr (by kernel_rfl)),trivial⟩⟩) 0 Gp rfl rfl [(vI y_36.f_from),(vI y_36.f_to)] rfl wz (eD 12 (.inr (by kernel_rfl)) (λ_ _ ag=>⟨.inr (.inr (by kernel_rfl)),⟨.inr (.inr (by kernel_rfl)),⟨.inr (.inr (by kernel_rfl)),trivial⟩⟩⟩) 1 Gp rfl rfl [(vI y_38.f_from),(vI y_38.f_to)] rfl wz (aj (af (af ?_))))))))
     obtain ⟨v_42,h_43,hF⟩:=bind_some hF
     refine aD (β:=Unit) (λ_=>([(1,(vI n_2)),(8,(.ref n_40 0 0)),(9,(.ref n_41 0 0)),(50,(vB v_42))]:SL_)) (λ_=>([(n_40,some (.cells 2 [(vI y_36.f_from),(vI y_36.f_to)])),(n_41,some (.cells 2 [(vI y_38.f_from),(vI y_38.f_to)]))]:Hp)) (λ_=>True) ?_ ?_
     ·refine aa (aH uy rfl 0 rfl wz (aA 0 1 il ft sz3 ag3 rfl rfl (vI y_38.f_from) rfl wz (aH uy rfl 0 rfl wz (aA 0 0 il ft sz3 ag3 rfl rfl (vI y_36.f_from) rfl wz (ae (vI (w64 (y_38.f_from-y_36.f_from))) wz rfl (ae (vB (decide ((w64 (y_38.f_from-y_36.f_from))>2592000000))) wz rfl ?_))))))
      rcases au h_43 with⟨hc_44,h_43⟩|⟨hc_44,h_43⟩
      ·refine aF rfl hc_44 wz (ak wa (ak wa (ak wa (ak wa (ak wa (ak wa (ae (vB true) wz rfl (aj ?_))))))))
       obtain rfl:=ah h_43
       exact cu
      ·refine aF rfl hc_44 wz (aH wV rfl 1 rfl wa (aA 0 1 il ft sz3 ag3 rfl rfl (vI y_38.f_to) rfl wa (aH wV rfl 1 rfl wa (aA 0 0 il ft sz3 ag3 rfl rfl (vI y_36.f_to) rfl wa (ae (vI (w64 (y_38.f_to-y_36.f_to))) wa rfl (ae (vB (decide ((w64 (y_38.f_to-y_36.f_to))>2592000000))) wa rfl (ae (vB (decide ((w64 (y_38.f_to-y_36.f_to))>2592000000))) wz rfl (aj ?_))))))))
       obtain rfl:=ah h_43
       exact cu
     ·rintro ⟨⟩ _ sl_ H_ hp_ hq_
      refine aL _ hp_ hq_ ?_
      rcases au hF with⟨hc_45,hF⟩|⟨hc_45,hF⟩
      ·refine aC rfl hc_45 (af (aa (ae (vI 0) wz rfl (ae (vI 2) wz rfl (aj ?_)))))
       obtain rfl:=ah hF
       exact aG (aU (.inr rfl) [(vI 0),(vI 2)] ⟨rfl,⟨rfl,trivial⟩⟩ rfl rfl rfl)
      ·refine aB rfl hc_45 (ax (aW (aH wV rfl 1 rfl wz (aA 1 0 (.inr (by kernel_rfl)) (λ_ _ ag=>trivial) sz3 ag3 rfl rfl (vI y_36.f_to) rfl wz (ae (vI n_2) wz rfl (aH uy rfl 0 rfl wz (aA 4 0 (.inr (by kernel_rfl)) (λ_ _ ag=>⟨.inl ⟨rfl,rfl⟩,trivial⟩) sz3 ag3 rfl rfl (vI y_36.f_from) rfl wz (ae (vI (w64 (n_2-y_36.f_from))) wz rfl (aH wV rfl 1 rfl wz (aA 7 1 (.inr (by kernel_rfl)) (λ_ _ ag=>⟨.inl ⟨rfl,rfl⟩,⟨.inl ⟨rfl,rfl⟩,trivial⟩⟩) sz3 ag3 rfl rfl (vI y_38.f_to) rfl wz (aH wV rfl 1 rfl wz (aA 9 0 (.inr (by kernel_rfl)) (λ_ _ ag=>⟨.inl ⟨rfl,rfl⟩,⟨.inl ⟨rfl,rfl⟩,⟨.inl ⟨rfl,rfl⟩,trivial⟩⟩⟩) sz3 ag3 rfl rfl (vI y_36.f_to) rfl wz (ae (vI (w64 (y_38.f_to-y_36.f_to))) wz rfl (ae (vI (w64 ((w64 (n_2-y_36.f_from))*(w64 (y_38.f_to-y_36.f_to))))) wz rfl (aH uy rfl 0 rfl wz (aA 13 1 (.inr (by kernel_rfl)) (λ_ _ ag=>⟨.inl ⟨rfl,rfl⟩,⟨.inl ⟨rfl,rfl⟩,⟨.inl ⟨rfl,rfl⟩,⟨.inl ⟨rfl,rfl⟩,trivial⟩⟩⟩⟩) sz3 ag3 rfl rfl (vI y_38.f_from) rfl wz (aH uy rfl 0 rfl wz (aA 15 0 (.inr (by kernel_rfl)) (λ_ _ ag=>⟨.inl ⟨rfl,rfl⟩,⟨.inl ⟨rfl,rfl⟩,⟨.inl ⟨rfl,rfl⟩,⟨.inl ⟨rfl,rfl⟩,⟨.inl ⟨rfl,rfl⟩,trivial⟩⟩⟩⟩⟩) sz3 ag3 rfl rfl (vI y_36.f_from) rfl wz (ae (vI (w64 (y_38.f_from-y_36.f_from))) wz rfl ?_)))))))))))))))))))
       obtain ⟨q_46,hz_47,hF⟩:=bind_some hF
       refine OW rfl rfl hz_47 wz (ae (vI (w64 (y_36.f_to+q_46))) wz rfl (ae (vI (w64 (y_36.f_to+q_46))) wz rfl (aj (af (af (aa (ae (vI (w64 (y_36.f_to+q_46))) wz rfl ?_)))))))
       obtain ⟨r_48,hr_49,hF⟩:=bind_some hF
       refine aI (jk hr_49) rfl Lb rfl rfl rfl rfl wz (ae (vB (!r_48)) wz rfl (aj ?_))
       rcases au hF with⟨hc_50,hF⟩|⟨hc_50,hF⟩
       ·refine aC rfl hc_50 (af (aa (ae (vI 0) wz rfl (ae (vI 11) wz rfl (aj ?_)))))
        obtain rfl:=ah hF
        exact aG (aU (.inr rfl) [(vI 0),(vI 11)] ⟨rfl,⟨rfl,trivial⟩⟩ rfl rfl rfl)
       ·refine aB rfl hc_50 (ax (af (aa (ae (vI (w64 (y_36.f_to+q_46))) wz rfl (ae (vI (w64 (y_36.f_to+q_46))) wz rfl (ae (vI 0) wz rfl (aj ?_)))))))
        obtain rfl:=ah hF
        exact aG (aU (.inr rfl) [(vI (w64 (y_36.f_to+q_46))),(vI 0)] ⟨rfl,⟨rfl,trivial⟩⟩ rfl rfl rfl)
theorem Em {l_1:(List Beat)} {player_2:ByteArray} {n_3:Int} {back_4:Bool} {r:Int×Int} (hF:rq l_1 player_2 n_3 back_4=some r) :
  FnM Tryz.prog 54 [(vL Beat.enc l_1),(vS player_2),(vI n_3),(vB back_4)] [] (.tup [(vI r.1),(vI r.2)]) []:=by
 refine FnM.of_wH ⟨Tryz.prog,30,[],[]⟩ rfl Tryz.func54 rfl rfl (lb_ rfl) (by kernel_rfl) ?_
 unfold rq at hF
 refine af (aa (ae (vI 0) wz rfl (ae (vI 0) wz rfl (aj (af (af (aa (ae (vL Beat.enc l_1) wz rfl ?_))))))))
 obtain ⟨r_5,hr_6,hF⟩:=bind_some hF
 refine aI (zn hr_6) rfl hb90 rfl rfl rfl rfl wz (ae (vI r_5) wz rfl (aj (af (aa (ae (vI r_5) wz rfl (ae (vB (r_5 != 0)) wz rfl (aj ?_)))))))
 rcases au hF with⟨hc_7,hF⟩|⟨hc_7,hF⟩
 ·refine aC rfl hc_7 (af (aa (ae (vI r_5) wz rfl (ae (vI 0) wz rfl (ae (vI r_5) wz rfl (aj ?_))))))
  obtain rfl:=ah hF
  exact aG (aU (.inr rfl) [(vI 0),(vI r_5)] ⟨rfl,⟨rfl,trivial⟩⟩ rfl rfl rfl)
 ·refine aB rfl hc_7 (ax (af (af (aa (ae (vS player_2) wz rfl ?_)))))
  obtain ⟨r_8,hr_9,hF⟩:=bind_some hF
  refine aI (fT hr_9) rfl BJ rfl rfl rfl rfl wz (ae (vB (!r_8)) wz rfl (aj ?_))
  rcases au hF with⟨hc_10,hF⟩|⟨hc_10,hF⟩
  ·refine aC rfl hc_10 (af (aa (ae (vI 0) wz rfl (ae (vI 5) wz rfl (aj ?_)))))
   obtain rfl:=ah hF
   exact aG (aU (.inr rfl) [(vI 0),(vI 5)] ⟨rfl,⟨rfl,trivial⟩⟩ rfl rfl rfl)
  ·refine aB rfl hc_10 (ax (af (af (aa (ae (vI n_3) wz rfl ?_)))))
   obtain ⟨r_11,hr_12,hF⟩:=bind_some hF
   refine aI (jk hr_12) rfl Lb rfl rfl rfl rfl wz (ae (vB (!r_11)) wz rfl (aj ?_))
   rcases au hF with⟨hc_13,hF⟩|⟨hc_13,hF⟩
   ·refine aC rfl hc_13 (af (aa (ae (vI 0) wz rfl (ae (vI 1) wz rfl (aj ?_)))))
    obtain rfl:=ah hF
    exact aG (aU (.inr rfl) [(vI 0),(vI 1)] ⟨rfl,⟨rfl,trivial⟩⟩ rfl rfl rfl)
   ·refine aB rfl hc_13 (ax (af (aa (ae (vL Beat.enc l_1) wz rfl (ae (vS player_2) wz rfl (ae (vB back_4) wz rfl ?_))))))
    obtain ⟨r_14,hr_15,hF⟩:=bind_some hF
    refine aI (Ct hr_15) rfl hb92 rfl rfl rfl rfl wz (ae (vI n_3) wz rfl ?_)
    obtain ⟨r_16,hr_17,hF⟩:=bind_some hF
    refine aI (Db hr_17) rfl hb91 rfl rfl rfl rfl wz (ae (vI r_16.1) wz rfl (ae (vI r_16.2) wz rfl (ae (vI r_16.1) wz rfl (ae (vI r_16.2) wz rfl (aj ?_)))))
    obtain rfl:=ah hF
    exact aG (aU (.inr rfl) [(vI r_16.1),(vI r_16.2)] ⟨rfl,⟨rfl,trivial⟩⟩ rfl rfl rfl)
theorem Ea {l_1:(List Beat)} {player_2:ByteArray} {clock_3:Int} {r:Int×Int} (hF:qR l_1 player_2 clock_3=some r) :
  FnM Tryz.prog 25 [(vL Beat.enc l_1),(vS player_2),(vI clock_3)] [] (.tup [(vI r.1),(vI r.2)]) []:=by
 refine FnM.of_wH ⟨Tryz.prog,14,[],[]⟩ rfl Tryz.func25 rfl rfl (lb_ rfl) (by kernel_rfl) ?_
 unfold qR at hF
 refine af (aa (ae (vI 0) wz rfl (ae (vI 0) wz rfl (aj (af (aa (ae (vL Beat.enc l_1) wz rfl (ae (vS player_2) wz rfl (ae (vI clock_3) wz rfl ?_)))))))))
 obtain ⟨r_4,hr_5,hF⟩:=bind_some hF
 refine aI (Em hr_5) rfl hb54 rfl rfl rfl rfl wz (ae (vI r_4.1) wz rfl (ae (vI r_4.2) wz rfl (ae (vI r_4.1) wz rfl (ae (vI r_4.2) wz rfl (aj ?_)))))
 obtain rfl:=ah hF
 exact aG (aU (.inr rfl) [(vI r_4.1),(vI r_4.2)] ⟨rfl,⟨rfl,trivial⟩⟩ rfl rfl rfl)
theorem zV {e_1:Entry} {zone_2:Int} {wv_3:Window} {r:(List Window)} (hF:gD e_1 zone_2 wv_3=some r) :
  FnM Tryz.prog 55 [(.d (.agg (Entry.enc e_1))),(vI zone_2),(.d (.agg (Window.enc wv_3)))] [] (gV (av 0) 2 r) (([]:List Box).map some++gO 2 Window.enc r):=by
 refine FnM.of_wH ⟨Tryz.prog,72,[],[]⟩ rfl Tryz.func55 rfl rfl (lb_ rfl) (by kernel_rfl) ?_
 unfold gD at hF
 refine af (aa (dL 0 (.inl rfl) [(vS e_1.Key),(vS e_1.Item),(vI e_1.Version),(vI e_1.First),(vI e_1.Last),(vI e_1.Every),(vI e_1.Days),(vL eI e_1.Except),(vI e_1.From),(vI e_1.To),(vI e_1.Prio),(vL eS e_1.Tags),(vB e_1.Gone)] rfl rfl wz (λn_4=>dL 0 (.inl rfl) [(vI wv_3.From),(vI wv_3.To)] rfl rfl wz (λn_5=>ae .nil wz rfl (aj (af (aa (ae .nil wz rfl (aj (af (af ?_)))))))))))
 obtain ⟨v_6,h_7,hF⟩:=bind_some hF
 refine aD (β:=Unit) (λ_=>([(1,(vI zone_2)),(3,(.ref n_4 0 0)),(5,(.ref n_5 0 0)),(7,.nil),(20,(vB v_6))]:SL_)) (λ_=>([(n_4,some (.cells 13 [(vS e_1.Key),(vS e_1.Item),(vI e_1.Version),(vI e_1.First),(vI e_1.Last),(vI e_1.Every),(vI e_1.Days),(vL eI e_1.Except),(vI e_1.From),(vI e_1.To),(vI e_1.Prio),(vL eS e_1.Tags),(vB e_1.Gone)])),(n_5,some (.cells 2 [(vI wv_3.From),(vI wv_3.To)]))]:Hp)) (λ_=>True) ?_ ?_
 ·refine aa (aH Me rfl 12 rfl wz (aA 0 0 il ft sz4 ag4 rfl rfl (vB e_1.Gone) rfl wz ?_))
  rcases au h_7 with⟨hc_8,h_7⟩|⟨hc_8,h_7⟩
  ·refine aF rfl hc_8 wz (ak wa (ak wa (ak wa (ak wa (ak wa (ae (vB true) wz rfl (aj ?_)))))))
   obtain rfl:=ah h_7
   exact cu
  ·refine aF rfl hc_8 wz (aH ib rfl 0 rfl wa (aA 0 1 il ft sz3 ag3 rfl rfl (vI wv_3.From) rfl wa (aH iq rfl 1 rfl wa (aA 0 1 il ft sz3 ag3 rfl rfl (vI wv_3.To) rfl wa (ae (vB (decide (wv_3.From>=wv_3.To))) wa rfl (ae (vB (decide (wv_3.From>=wv_3.To))) wz rfl (aj ?_)))))))
   obtain rfl:=ah h_7
   exact cu
 ·rintro ⟨⟩ _ sl_ H_ hp_ hq_
  refine aL _ hp_ hq_ ?_
  rcases au hF with⟨hc_9,hF⟩|⟨hc_9,hF⟩
  ·refine aC rfl hc_9 (af (aa (ae .nil wz rfl (aj (kg (λn_10 => ?_))))))
   obtain rfl:=ah hF
   exact aG (finG (outs:=([]:List Box)) (.inr rfl) 2 rfl rfl rfl (by kernel_rfl) (by kernel_rfl))
  ·refine aB rfl hc_9 (ax (af (aa (aH ib rfl 0 rfl wz (aA 0 1 il ft sz3 ag3 rfl rfl (vI wv_3.From) rfl wz (ae (vI zone_2) wz rfl (ae (vI (w64 (zone_2*60000))) wz rfl (ae (vI (w64 (wv_3.From+(w64 (zone_2*60000))))) wz rfl (ae (vI (w64 ((w64 (wv_3.From+(w64 (zone_2*60000)))).tdiv 86400000))) wz rfl (ae (vI (w64 ((w64 ((w64 (wv_3.From+(w64 (zone_2*60000)))).tdiv 86400000))-2))) wz rfl (ae (vI (w64 ((w64 ((w64 (wv_3.From+(w64 (zone_2*60000)))).tdiv 86400000))-2))) wz rfl (aj (af (aa (aH iq rfl 1 rfl wz (aA 0 1 il ft sz3 ag3 rfl rfl (vI wv_3.To) rfl wz (ae (vI zone_2) wz rfl (ae (vI (w64 (zone_2*60000))) wz rfl (ae (vI (w64 (wv_3.To+(w64 (zone_2*60000))))) wz rfl (ae (vI (w64 ((w64 (wv_3.To+(w64 (zone_2*60000)))).tdiv 86400000))) wz rfl (ae (vI (w64 ((w64 ((w64 (wv_3.To+(w64 (zone_2*60000)))).tdiv 86400000))+1))) wz rfl (ae (vI (w64 ((w64 ((w64 (wv_3.To+(w64 (zone_2*60000)))).tdiv 86400000))+1))) wz rfl (aj ?_)))))))))))))))))))))))
   refine af (af (aa (ae (vI (w64 ((w64 ((w64 (wv_3.From+(w64 (zone_2*60000)))).tdiv 86400000))-2))) wz rfl (aH BG rfl 3 rfl wz (aA 0 0 il ft sz3 ag3 rfl rfl (vI e_1.First) rfl wz (ma (vI (jE (w64 ((w64 ((w64 (wv_3.From+(w64 (zone_2*60000)))).tdiv 86400000))-2)) e_1.First)) rfl (.inr rfl) wz (ae (vI (jE (w64 ((w64 ((w64 (wv_3.From+(w64 (zone_2*60000)))).tdiv 86400000))-2)) e_1.First)) wz rfl (aj (kg (λn_17 => ?_))))))))))
   obtain ⟨o_22,hj_23,hF⟩:=bind_some hF
   obtain ⟨nq_41,hj_23⟩:=bR hj_23
   refine aD (β:=((List Window)×Int)×Nm) (λp=>(λ(s_16:(List Window)×Int) (n_19:Nm)=>([(7,(gV n_19 2 s_16.1))]:SL_)) p.1 p.2) (λp=>(λ(s_16:(List Window)×Int) (n_19:Nm)=>([(n_4,some (.cells 13 [(vS e_1.Key),(vS e_1.Item),(vI e_1.Version),(vI e_1.First),(vI e_1.Last),(vI e_1.Every),(vI e_1.Days),(vL eI e_1.Except),(vI e_1.From),(vI e_1.To),(vI e_1.Prio),(vL eS e_1.Tags),(vB e_1.Gone)])),(n_5,some (.cells 2 [(vI wv_3.From),(vI wv_3.To)])),(n_19,gB 2 Window.enc s_16.1)]:Hp)) p.1 p.2) (λp=>o_22 = .go p.1) ?_ ?_
   ·refine ay (aS (β:=Nat×((List Window)×Int)×Nm) (λp=>(λ(k_11:Nat) (s_16:(List Window)×Int) (n_19:Nm)=>([(1,(vI zone_2)),(3,(.ref n_4 0 0)),(5,(.ref n_5 0 0)),(7,(gV n_19 2 s_16.1)),(9,(vI (w64 ((w64 ((w64 (wv_3.To+(w64 (zone_2*60000)))).tdiv 86400000))+1)))),(10,(vI s_16.2))]:SL_)) p.1 p.2.1 p.2.2) (λp=>(λ(k_11:Nat) (s_16:(List Window)×Int) (n_19:Nm)=>([(n_4,some (.cells 13 [(vS e_1.Key),(vS e_1.Item),(vI e_1.Version),(vI e_1.First),(vI e_1.Last),(vI e_1.Every),(vI e_1.Days),(vL eI e_1.Except),(vI e_1.From),(vI e_1.To),(vI e_1.Prio),(vL eS e_1.Tags),(vB e_1.Gone)])),(n_5,some (.cells 2 [(vI wv_3.From),(vI wv_3.To)])),(n_19,gB 2 Window.enc s_16.1)]:Hp)) p.1 p.2.1 p.2.2) (λp=>iterN (λs=>eH wv_3 zone_2 e_1 s) p.1 p.2.1=some o_22) (λp=>p.1) (nq_41,(([]:List Window),(jE (w64 ((w64 ((w64 (wv_3.From+(w64 (zone_2*60000)))).tdiv 86400000))-2)) e_1.First)),n_17) hj_23 rfl (aJ rfl) ?_)
    rintro ⟨k_11,s_16,n_19⟩ hL_21
    dsimp only at hL_21
    cases k_11 with
    | zero=>cases hL_21
    | succ k_11 =>
     obtain ⟨c_,hc_20,hL_21⟩:=bind_some hL_21
     unfold eH at hc_20
     refine af (af (aa (ae (vI s_16.2) wz rfl (ae (vI (w64 ((w64 ((w64 (wv_3.To+(w64 (zone_2*60000)))).tdiv 86400000))+1))) wz rfl (aH Cx rfl 4 rfl wz (aA 0 0 il ft sz3 ag3 rfl rfl (vI e_1.Last) rfl wz (ma (vI (lD (w64 ((w64 ((w64 (wv_3.To+(w64 (zone_2*60000)))).tdiv 86400000))+1)) e_1.Last)) rfl (.inl rfl) wz (ae (vB (decide (s_16.2<=(lD (w64 ((w64 ((w64 (wv_3.To+(w64 (zone_2*60000)))).tdiv 86400000))+1)) e_1.Last)))) wz rfl (aj ?_)))))))))
     rcases au hc_20 with⟨hc_24,hc_20⟩|⟨hc_24,hc_20⟩
     ·refine aC rfl hc_24 (ax (af (ay (af (af (aa (aA 0 0 il ft zi BD rfl rfl (.d (.agg (Entry.enc e_1))) rfl wz (ae (vI s_16.2) wz rfl ?_))))))))
      obtain ⟨r_25,hr_26,hc_20⟩:=bind_some hc_20
      refine aI (uE hr_26) rfl hb93 rfl rfl rfl rfl wz (ae (vB (!r_25)) wz rfl (aj ?_))
      rcases au hc_20 with⟨hc_27,hc_20⟩|⟨hc_27,hc_20⟩
      ·refine aC rfl hc_27 (aP (aa (ae (vI s_16.2) wz rfl (ae (vI (w64 (s_16.2+1))) wz rfl (ae (vI (w64 (s_16.2+1))) wz rfl (aj ?_))))))
       obtain rfl:=ah hc_20
       exact aO (k_11,(s_16.1,(w64 (s_16.2+1))),n_19) hL_21 (ls_ _) rfl (aJ rfl)
      ·refine aB rfl hc_27 (ax (af (aa (aA 0 0 il ft zi BD rfl rfl (.d (.agg (Entry.enc e_1))) rfl wz (ae (vI zone_2) wz rfl (ae (vI s_16.2) wz rfl ?_))))))
       obtain ⟨r_28,hr_29,hc_20⟩:=bind_some hc_20
       refine aI (tL hr_29) rfl hb94 rfl rfl rfl rfl wz (cK 0 (.inl rfl) z34 rfl wz (λn_30=>eD 0 il ft 3 lT rfl rfl [(vI r_28.From),(vI r_28.To)] rfl wz (aj (af ?_))))
       obtain ⟨v_31,h_32,hc_20⟩:=bind_some hc_20
       refine aD (β:=Unit) (λ_=>([(1,(vI zone_2)),(3,(.ref n_4 0 0)),(5,(.ref n_5 0 0)),(7,(gV n_19 2 s_16.1)),(9,(vI (w64 ((w64 ((w64 (wv_3.To+(w64 (zone_2*60000)))).tdiv 86400000))+1)))),(10,(vI s_16.2)),(11,(.ref n_30 0 0)),(66,(vB v_31))]:SL_)) (λ_=>([(n_4,some (.cells 13 [(vS e_1.Key),(vS e_1.Item),(vI e_1.Version),(vI e_1.First),(vI e_1.Last),(vI e_1.Every),(vI e_1.Days),(vL eI e_1.Except),(vI e_1.From),(vI e_1.To),(vI e_1.Prio),(vL eS e_1.Tags),(vB e_1.Gone)])),(n_5,some (.cells 2 [(vI wv_3.From),(vI wv_3.To)])),(n_19,gB 2 Window.enc s_16.1),(n_30,some (.cells 2 [(vI r_28.From),(vI r_28.To)]))]:Hp)) (λ_=>True) ?_ ?_
       ·refine aa (aH ib rfl 0 rfl wz (aA 0 3 il ft sz3 ag3 rfl rfl (vI r_28.From) rfl wz (aH iq rfl 1 rfl wz (aA 0 1 il ft sz3 ag3 rfl rfl (vI wv_3.To) rfl wz (ae (vB (decide (r_28.From<wv_3.To))) wz rfl ?_)))))
        rcases au h_32 with⟨hc_33,h_32⟩|⟨hc_33,h_32⟩
        ·refine aF rfl hc_33 wz (aH iq rfl 1 rfl wa (aA 0 3 il ft sz3 ag3 rfl rfl (vI r_28.To) rfl wa (aH ib rfl 0 rfl wa (aA 0 1 il ft sz3 ag3 rfl rfl (vI wv_3.From) rfl wa (ae (vB (decide (r_28.To>wv_3.From))) wa rfl (ae (vB (decide (r_28.To>wv_3.From))) wz rfl (aj ?_)))))))
         obtain rfl:=ah h_32
         exact cu
        ·refine aF rfl hc_33 wz (ak wa (ak wa (ak wa (ak wa (ak wa (ae (vB false) wz rfl (aj ?_)))))))
         obtain rfl:=ah h_32
         exact cu
       ·rintro ⟨⟩ _ sl_ H_ hp_ hq_
        refine aL _ hp_ hq_ ?_
        obtain ⟨v_34,h_35,hc_20⟩:=bind_some hc_20
        refine aD (β:=Nm) (λ(n_36:Nm)=>([(1,(vI zone_2)),(3,(.ref n_4 0 0)),(5,(.ref n_5 0 0)),(7,(gV n_36 2 v_34)),(9,(vI (w64 ((w64 ((w64 (wv_3.To+(w64 (zone_2*60000)))).tdiv 86400000))+1)))),(10,(vI s_16.2))]:SL_)) (λ(n_36:Nm)=>([(n_4,some (.cells 13 [(vS e_1.Key),(vS e_1.Item),(vI e_1.Version),(vI e_1.First),(vI e_1.Last),(vI e_1.Every),(vI e_1.Days),(vL eI e_1.Except),(vI e_1.From),(vI e_1.To),(vI e_1.Prio),(vL eS e_1.Tags),(vB e_1.Gone)])),(n_5,some (.cells 2 [(vI wv_3.From),(vI wv_3.To)])),(n_36,gB 2 Window.enc v_34),(n_30,some (.cells 2 [(vI r_28.From),(vI r_28.To)]))]:Hp)) (λ_=>True) ?_ ?_
        ·rcases au h_35 with⟨hc_37,h_35⟩|⟨hc_37,h_35⟩
         ·refine aC rfl hc_37 (aa (ae (gV n_19 2 s_16.1) wz rfl (aA 0 3 il ft lT qI rfl rfl (.d (.agg (Window.enc r_28))) rfl wz (dW (([r_28]:List Window).map Window.enc) MU ez78 rfl rfl rfl rfl rfl wz ?_))))
          obtain ⟨a_38,hz_39,h_35⟩:=bind_some h_35
          refine jS 0 il ft (i:=2) el78 el78 lT z34 rfl (by decide) by34 (by decide) (λ_=>rfl) rfl rfl rfl hz_39 wz (λn_40=>ae (gV n_40 2 a_38) wz rfl (aj ?_))
          obtain rfl:=ah h_35
          exact aN n_40 trivial rfl (aJ rfl)
         ·refine aB rfl hc_37 (ax ?_)
          obtain rfl:=ah h_35
          exact aN n_19 trivial rfl (aJ rfl)
        ·rintro n_36 _ sl_ H_ hp_ hq_
         refine aL _ hp_ hq_ (aa (ae (vI s_16.2) wz rfl (ae (vI (w64 (s_16.2+1))) wz rfl (ae (vI (w64 (s_16.2+1))) wz rfl (aj ?_)))))
         obtain rfl:=ah hc_20
         exact aO (k_11,(v_34,(w64 (s_16.2+1))),n_36) hL_21 (ls_ _) rfl (aJ rfl)
     ·refine aB rfl hc_24 (aP ?_)
      obtain rfl:=ah hc_20
      obtain rfl:=ah hL_21
      exact aN ((s_16.1,s_16.2),n_19) rfl rfl (aJ rfl)
   ·rintro ⟨s_16,n_19⟩ ho_ sl_ H_ hp_ hq_
    subst ho_
    refine aL _ hp_ hq_ (af (aa (ae (gV n_19 2 s_16.1) wz rfl (ae (gV n_19 2 s_16.1) wz rfl (aj ?_)))))
    obtain rfl:=ah hF
    exact aG (finG (outs:=([]:List Box)) (.inr rfl) 2 rfl rfl rfl (by kernel_rfl) (by kernel_rfl))
end Go.Proofs.YticmkhcacamhkaaGreatDoor.Law

