/-
 The machine computes these plain functions (written by a program of ours).
-/
import Derived.Test.YtacmlgpnplklaaaGreatDoorFacts
import Derived.Test.YtacmlgpnplklaaaGreatDoorDefs
import Derived.Test.YtacmlgpnplklaaaGreatDoorPf3
open Go Go.Eng Go.Proofs
namespace Go.Proofs.YtacmlgpnplklaaaGreatDoor.Law
set_option maxRecDepth 100000
set_option linter.unusedVariables false
set_option maxHeartbeats 1000000
theorem u6 {l_1:(List Rect)} {m_2:(List Rect)} {r:(List Rect)} (hF:jM l_1 m_2=some r) :
  FnM Tryz.prog 61 [(vL Rect.enc l_1),(vL Rect.enc m_2)] [] (vL Rect.enc r) []:=by
 refine FnM.of_wH ⟨Tryz.prog,88,[],[]⟩ rfl Tryz.func61 rfl rfl (lb_ rfl) (by kernel_rfl) ?_
 unfold jM at hF
 refine ai (aa .nil (af (ai (aa .nil (af (ak (ai (aa (vL Rect.enc l_1) (aa (vL Rect.enc m_2) (gu (([l_1,m_2]:List (List Rect)).map (eL Rect.enc)) H8 ez114 rfl rfl rfl rfl rfl wz ?_))))))))))
 obtain ⟨r_3,hr_4,hF⟩:=bind_some hF
 refine aI (jX hr_4) rfl hb73 rfl rfl rfl rfl wz (dH Bi rfl wz (aa (vI 0) (af (nK (λn_11 => ?_)))))
 obtain ⟨o_16,hj_17,hF⟩:=bind_some hF
 obtain ⟨hn_9,hj_17⟩:=bH hj_17
 refine iw (σ:=(List Int)) (N:=Nm) (λp=>(λ(s_10:List Int) (n_13:Nm)=>([(0,(vL Rect.enc l_1)),(1,(vL Rect.enc m_2)),(5,(gV n_13 1 s_10))]:SL_)) p.1 p.2) (λp=>(λ(s_10:List Int) (n_13:Nm)=>([(n_13,gB 1 eI s_10)]:Hp)) p.1 p.2) (λ(k_5:Nat)=>(λp=>(λ(s_10:List Int) (n_13:Nm)=>([(0,(vL Rect.enc l_1)),(1,(vL Rect.enc m_2)),(5,(gV n_13 1 s_10)),(19,(vL Rect.enc r_3)),(20,(vI (r_3.length:Int))),(21,(vI (k_5:Int)))]:SL_)) p.1 p.2)) (λk x s=>jy k x s) o_16 r_3 (([]:List Int),n_11) hj_17 rfl (aK rfl) ?_ ?_
 ·rintro ⟨k_5,l_6,s_10,n_13⟩ ⟨hL_15,hD_8⟩
  dsimp only at hL_15 hD_8
  cases l_6 with
  | nil =>
   obtain rfl:=ae hL_15
   refine ai (aa (vB (decide ((k_5:Int)<(r_3.length:Int)))) (af ?_))
   refine ak (aA rfl (drop_nil hD_8) (bE ?_))
   exact bn (s_10,n_13) rfl rfl (aK rfl)
  | cons x_7 l_6 =>
   obtain ⟨c_,hc_14,hL_15⟩:=bind_some hL_15
   refine ai (aa (vB (decide ((k_5:Int)<(r_3.length:Int)))) (af ?_))
   refine ak (aC rfl (bN hD_8) (ax ?_))
   unfold jy at hc_14
   refine ak (aR (ai (eH Hl rfl rfl (dz hD_8) rfl wz (bT nC xx rfl (.d (.agg (Rect.enc x_7))) rfl wz (dM 0 (.inl rfl) z47 rfl wz (λn_18=>bR 0 il ft 1 nC rfl rfl (Rect.v x_7) rfl wz (af (av (aa (gV n_13 1 s_10) (aF jI rfl 1 rfl wz (aJ 0 1 il ft sz3 ag3 rfl rfl (vI x_7.Y) rfl wz (aF jI rfl 1 rfl wz (aJ 0 1 il ft sz3 ag3 rfl rfl (vI x_7.Y) rfl wz (aF mg rfl 3 rfl wz (aJ 0 1 il ft sz3 ag3 rfl rfl (vI x_7.H) rfl wz (aa (vI (w64 (x_7.Y+x_7.H))) (gu (([x_7.Y,(w64 (x_7.Y+x_7.H))]:List Int).map eI) iq tF rfl rfl rfl rfl rfl wz ?_)))))))))))))))))
   obtain ⟨a_19,hz_20,hc_14⟩:=bind_some hc_14
   refine kI 0 il ft (i:=0) EZ EZ sz3 z3 rfl (by decide) by3 (by decide) (λ_=>rfl) rfl rfl rfl hz_20 wz (λn_21=>aa (gV n_21 1 a_19) (af (av (gW (bX hD_8 hn_9) wz rfl (aa (vI ((k_5+1:Nat):Int)) (af ?_))))))
   obtain rfl:=ae hc_14
   exact bD (k_5+1,l_6,a_19,n_21) ⟨hL_15,bv hD_8⟩ (ls_ _) rfl (aK rfl)
 ·rintro ⟨s_10,n_13⟩ ho_ sl_ H_ hp_ hq_
  subst ho_
  refine aS _ hp_ hq_ (ai (aa (gV n_13 1 s_10) ?_))
  obtain ⟨r_22,hr_23,hF⟩:=bind_some hF
  obtain ⟨_,hs_24,hF⟩:=bind_some hF
  replace hs_24:=uP hs_24
  refine uU 0 [] 0 0 il ft (og hr_23) rfl hb74 rfl rfl rfl (by kernel_rfl) rfl (.inl rfl) rfl (by kernel_rfl) (by kernel_rfl) (by kernel_rfl) (by kernel_rfl) rfl (by decide) (by kernel_rfl) wZ (FP hs_24) wz ([(n_13,gB 1 eI r_22)]:Hp) (by kernel_rfl) (jU (v':=(gV n_13 1 r_22)) 36 rfl (sV hs_24.symm) (jU (v':=(gV n_13 1 r_22)) 5 rfl (sV hs_24.symm) (af (ai (aa (gV n_13 1 r_22) ?_)))))
  obtain ⟨r_25,hr_26,hF⟩:=bind_some hF
  refine uU 0 [] 0 0 il ft (ma hr_26) rfl hb75 rfl rfl rfl (by kernel_rfl) rfl (.inl rfl) rfl (by kernel_rfl) (by kernel_rfl) (by kernel_rfl) (by kernel_rfl) rfl (by decide) (by kernel_rfl) xM (λ_=>rfl) wz ([(n_13,none)]:Hp) (by kernel_rfl) (aa (vL eI r_25) (af (ai (aa .nil (af (ai (aa .nil (af (ai (aa (vI 0) (af (ak (ai (aa (vL eI r_25) (dH sO rfl wz (aa (vI 0) (af (Fy Run.enc 9 rfl (nK (λn_33 => ?_))))))))))))))))))))
  obtain ⟨o_38,hj_39,hF⟩:=bind_some hF
  obtain ⟨hn_31,hj_39⟩:=bH hj_39
  refine iw (σ:=(List Rect)×(List Run)×Int) (N:=Nm) (λp=>(λ(s_32:(List Rect)×(List Run)×Int) (n_35:Nm)=>([(8,(gV n_35 4 s_32.1))]:SL_)) p.1 p.2) (λp=>(λ(s_32:(List Rect)×(List Run)×Int) (n_35:Nm)=>([(n_13,none),(n_35,gB 4 Rect.enc s_32.1)]:Hp)) p.1 p.2) (λ(k_27:Nat)=>(λp=>(λ(s_32:(List Rect)×(List Run)×Int) (n_35:Nm)=>([(0,(vL Rect.enc l_1)),(1,(vL Rect.enc m_2)),(5,(vL eI r_25)),(8,(gV n_35 4 s_32.1)),(9,(vL Run.enc s_32.2.1)),(10,(vI s_32.2.2)),(40,(vL eI r_25)),(41,(vI (r_25.length:Int))),(42,(vI (k_27:Int)))]:SL_)) p.1 p.2)) (λk x s=>gY r_25 l_1 m_2 k x s) o_38 r_25 ((([]:List Rect),([]:List Run),0),n_33) hj_39 rfl (aK rfl) ?_ ?_
  ·rintro ⟨k_27,l_28,s_32,n_35⟩ ⟨hL_37,hD_30⟩
   dsimp only at hL_37 hD_30
   cases l_28 with
   | nil =>
    obtain rfl:=ae hL_37
    refine ai (aa (vB (decide ((k_27:Int)<(r_25.length:Int)))) (af ?_))
    refine ak (aA rfl (drop_nil hD_30) (bE ?_))
    exact bn (s_32,n_35) rfl rfl (aK rfl)
   | cons x_29 l_28 =>
    obtain ⟨c_,hc_36,hL_37⟩:=bind_some hL_37
    refine ai (aa (vB (decide ((k_27:Int)<(r_25.length:Int)))) (af ?_))
    refine ak (aC rfl (bN hD_30) (ax ?_))
    unfold gY at hc_36
    refine ak (aR (ai (aa (vI (k_27:Int)) (eH iq rfl rfl (dz hD_30) rfl wz (bT sz3 ag3 rfl (vI x_29) rfl wz (aa (vI (k_27:Int)) (aa (vI x_29) (af (ai (aa .nil (af (ak (ai (aa (vI (k_27:Int)) (aa (vI (w64 ((k_27:Int)+1))) (aa (vL eI r_25) (dH sO rfl wz (aa (vB (decide ((w64 ((k_27:Int)+1))<(r_25.length:Int)))) (af (Fy Run.enc 13 rfl ?_))))))))))))))))))))
    obtain ⟨v_42,h_43,hc_36⟩:=bind_some hc_36
    refine aU [(0,(vL Rect.enc l_1)),(1,(vL Rect.enc m_2)),(5,(vL eI r_25)),(8,(gV n_35 4 s_32.1)),(9,(vL Run.enc s_32.2.1)),(10,(vI s_32.2.2)),(12,(vI x_29)),(13,(vL Run.enc v_42)),(40,(vL eI r_25)),(41,(vI (r_25.length:Int))),(42,(vI (k_27:Int)))] [(n_13,none),(n_35,gB 4 Rect.enc s_32.1)] ?_ ?_
    ·rcases aj h_43 with⟨hc_44,h_43⟩|⟨hc_44,h_43⟩
     ·refine aC rfl hc_44 (av (aa (vL Rect.enc l_1) (aa (vI x_29) ?_)))
      obtain ⟨r_45,hr_46,h_43⟩:=bind_some h_43
      refine aI (ry hr_46) rfl hb77 rfl rfl rfl rfl wz (aa (vL Rect.enc m_2) (aa (vI x_29) ?_))
      obtain ⟨r_47,hr_48,h_43⟩:=bind_some h_43
      refine aI (ry hr_48) rfl hb77 rfl rfl rfl rfl wz ?_
      obtain ⟨r_49,hr_50,h_43⟩:=bind_some h_43
      refine aI (zf hr_50) rfl hb76 rfl rfl rfl rfl wz (aa (vL Run.enc r_49) (af ?_))
      obtain rfl:=ae h_43
      exact cu
     ·refine aA rfl hc_44 (ax ?_)
      obtain rfl:=ae h_43
      exact cu
    ·rintro ⟨⟩ _ sl_ H_ hp_ hq_
     refine aS _ hp_ hq_ (ak (ai (aa (vL Run.enc s_32.2.1) (aa (vL Run.enc v_42) ?_))))
     obtain ⟨r_51,hr_52,hc_36⟩:=bind_some hc_36
     refine aI (jB hr_52) rfl hb78 rfl rfl rfl rfl wz (af ?_)
     rcases aj hc_36 with⟨hc_53,hc_36⟩|⟨hc_53,hc_36⟩
     ·refine aC rfl hc_53 (bE (av (gW (bX hD_30 hn_31) wz rfl (aa (vI ((k_27+1:Nat):Int)) (af ?_)))))
      obtain rfl:=ae hc_36
      exact bD (k_27+1,l_28,(s_32.1,s_32.2.1,s_32.2.2),n_35) ⟨hL_37,bv hD_30⟩ (ls_ _) rfl (aK rfl)
     ·refine aA rfl hc_53 (ax (ak (ai (aa (vL Run.enc s_32.2.1) (dH sN rfl wz (aa (vI 0) (af ?_)))))))
      obtain ⟨o_64,hj_65,hc_36⟩:=bind_some hc_36
      obtain ⟨hn_58,hj_65⟩:=bH hj_65
      refine iw (σ:=(List Rect)) (N:=Nm) (λp=>(λ(s_59:List Rect) (n_61:Nm)=>([(0,(vL Rect.enc l_1)),(1,(vL Rect.enc m_2)),(5,(vL eI r_25)),(8,(gV n_61 4 s_59)),(12,(vI x_29)),(13,(vL Run.enc v_42)),(40,(vL eI r_25)),(41,(vI (r_25.length:Int))),(42,(vI (k_27:Int)))]:SL_)) p.1 p.2) (λp=>(λ(s_59:List Rect) (n_61:Nm)=>([(n_13,none),(n_61,gB 4 Rect.enc s_59)]:Hp)) p.1 p.2) (λ(k_54:Nat)=>(λp=>(λ(s_59:List Rect) (n_61:Nm)=>([(0,(vL Rect.enc l_1)),(1,(vL Rect.enc m_2)),(5,(vL eI r_25)),(8,(gV n_61 4 s_59)),(10,(vI s_32.2.2)),(12,(vI x_29)),(13,(vL Run.enc v_42)),(40,(vL eI r_25)),(41,(vI (r_25.length:Int))),(42,(vI (k_27:Int))),(62,(vL Run.enc s_32.2.1)),(63,(vI (s_32.2.1.length:Int))),(64,(vI (k_54:Int)))]:SL_)) p.1 p.2)) (λk x s=>jE s_32 x_29 k x s) o_64 s_32.2.1 (s_32.1,n_35) hj_65 rfl (aK rfl) ?_ ?_
      ·rintro ⟨k_54,l_55,s_59,n_61⟩ ⟨hL_63,hD_57⟩
       dsimp only at hL_63 hD_57
       cases l_55 with
       | nil =>
        obtain rfl:=ae hL_63
        refine ai (aa (vB (decide ((k_54:Int)<(s_32.2.1.length:Int)))) (af ?_))
        refine ak (aA rfl (drop_nil hD_57) (bE ?_))
        exact bn (s_59,n_61) rfl rfl (aK rfl)
       | cons x_56 l_55 =>
        obtain ⟨c_,hc_62,hL_63⟩:=bind_some hL_63
        refine ai (aa (vB (decide ((k_54:Int)<(s_32.2.1.length:Int)))) (af ?_))
        refine ak (aC rfl (bN hD_57) (ax ?_))
        unfold jE at hc_62
        refine ak (aR (ai (eH jo rfl rfl (dz hD_57) rfl wz (bT kz ru rfl (.d (.agg (Run.enc x_56))) rfl wz (dM 0 (.inl rfl) z109 rfl wz (λn_66=>bR 0 il ft 2 kz rfl rfl [(vI x_56.f_from),(vI x_56.f_to)] rfl wz (af (av (aa (gV n_61 4 s_59) (aF iY rfl 0 rfl wz (aJ 0 2 il ft sz3 ag3 rfl rfl (vI x_56.f_from) rfl wz (aa (vI s_32.2.2) (aF mY rfl 1 rfl wz (aJ 0 2 il ft sz3 ag3 rfl rfl (vI x_56.f_to) rfl wz (aF iY rfl 0 rfl wz (aJ 0 2 il ft sz3 ag3 rfl rfl (vI x_56.f_from) rfl wz (aa (vI (w64 (x_56.f_to-x_56.f_from))) (aa (vI x_29) (aa (vI s_32.2.2) (aa (vI (w64 (x_29-s_32.2.2))) (aH (.d (.agg (Rect.enc (⟨x_56.f_from,s_32.2.2,(w64 (x_56.f_to-x_56.f_from)),(w64 (x_29-s_32.2.2))⟩:Rect)))) wz (by kernel_rfl) (gu (([(⟨x_56.f_from,s_32.2.2,(w64 (x_56.f_to-x_56.f_from)),(w64 (x_29-s_32.2.2))⟩:Rect)]:List Rect).map Rect.enc) Hl ez79 rfl rfl rfl rfl rfl wz ?_))))))))))))))))))))))
        obtain ⟨a_67,hz_68,hc_62⟩:=bind_some hc_62
        refine kI 0 il ft (i:=1) Ei Ei nC z47 rfl (by decide) by47 (by decide) (λ_=>rfl) rfl rfl rfl hz_68 wz (λn_69=>aa (gV n_69 4 a_67) (af (av (gW (bX hD_57 hn_58) wz rfl (aa (vI ((k_54+1:Nat):Int)) (af ?_))))))
        obtain rfl:=ae hc_62
        exact bD (k_54+1,l_55,a_67,n_69) ⟨hL_63,bv hD_57⟩ (ls_ _) rfl (aK rfl)
      ·rintro ⟨s_59,n_61⟩ ho_ sl_ H_ hp_ hq_
       subst ho_
       refine aS _ hp_ hq_ (av (aa (vL Run.enc v_42) (aa (vI x_29) (aa (vL Run.enc v_42) (aa (vI x_29) (af (av (gW (bX hD_30 hn_31) wz rfl (aa (vI ((k_27+1:Nat):Int)) (af ?_))))))))))
       obtain rfl:=ae hc_36
       exact bD (k_27+1,l_28,(s_59,v_42,x_29),n_61) ⟨hL_37,bv hD_30⟩ (ls_ _) rfl (aK rfl)
  ·rintro ⟨s_32,n_35⟩ ho_ sl_ H_ hp_ hq_
   subst ho_
   refine aS _ hp_ hq_ (ai (aa (gV n_35 4 s_32.1) (aa (gV n_35 4 s_32.1) (af (gN 1 rfl (gQ 4 1 rfl rfl (gQ 8 1 rfl rfl (gQ 87 1 rfl rfl ?_))))))))
   obtain rfl:=ae hF
   exact ay (aN [(vL Rect.enc s_32.1)] ⟨rfl,trivial⟩)
theorem zz {l_1:(List Rect)} {r:Int} (hF:oC l_1=some r) :
  FnM Tryz.prog 60 [(vL Rect.enc l_1)] [] (vI r) []:=by
 refine FnM.of_wH ⟨Tryz.prog,21,[],[]⟩ rfl Tryz.func60 rfl rfl (lb_ rfl) (by kernel_rfl) ?_
 unfold oC at hF
 refine ai (aa (vI 0) (af (ai (aa (vI 0) (af (ak (ai (aa (vL Rect.enc l_1) (dH Bi rfl wz (aa (vI 0) (af ?_)))))))))))
 obtain ⟨o_10,hj_11,hF⟩:=bind_some hF
 obtain ⟨hn_6,hj_11⟩:=bH hj_11
 refine fO (λ(s_7:Int)=>[(3,(vI s_7))]) (λ(s_7:Int)=>[]) (λ(k_2:Nat)=>(λ(s_7:Int)=>[(3,(vI s_7)),(6,(vL Rect.enc l_1)),(7,(vI (l_1.length:Int))),(8,(vI (k_2:Int)))])) (λk x s=>nN k x s) o_10 l_1 0 hj_11 rfl (aK rfl) ?_ ?_
 ·rintro ⟨k_2,l_3,s_7⟩ ⟨hL_9,hD_5⟩
  dsimp only at hL_9 hD_5
  cases l_3 with
  | nil =>
   obtain rfl:=ae hL_9
   refine ai (aa (vB (decide ((k_2:Int)<(l_1.length:Int)))) (af ?_))
   refine ak (aA rfl (drop_nil hD_5) (bE ?_))
   exact bn (s_7) rfl rfl (aK rfl)
  | cons x_4 l_3 =>
   obtain ⟨c_,hc_8,hL_9⟩:=bind_some hL_9
   refine ai (aa (vB (decide ((k_2:Int)<(l_1.length:Int)))) (af ?_))
   refine ak (aC rfl (bN hD_5) (ax ?_))
   unfold nN at hc_8
   refine ak (aR (ai (eH Hl rfl rfl (dz hD_5) rfl wz (bT nC xx rfl (.d (.agg (Rect.enc x_4))) rfl wz (dM 0 (.inl rfl) z47 rfl wz (λn_12=>bR 0 il ft 0 nC rfl rfl (Rect.v x_4) rfl wz (af (av (aa (vI s_7) (aF oM rfl 2 rfl wz (aJ 0 0 il ft sz3 ag3 rfl rfl (vI x_4.W) rfl wz (aF mg rfl 3 rfl wz (aJ 0 0 il ft sz3 ag3 rfl rfl (vI x_4.H) rfl wz (aa (vI (w64 (x_4.W*x_4.H))) (aa (vI (w64 (s_7+(w64 (x_4.W*x_4.H))))) (aa (vI (w64 (s_7+(w64 (x_4.W*x_4.H))))) (af (av (gW (bX hD_5 hn_6) wz rfl (aa (vI ((k_2+1:Nat):Int)) (af ?_)))))))))))))))))))))
   obtain rfl:=ae hc_8
   exact bD (k_2+1,l_3,(w64 (s_7+(w64 (x_4.W*x_4.H))))) ⟨hL_9,bv hD_5⟩ (ls_ _) rfl (aK rfl)
 ·rintro s_7 ho_ sl_ H_ hp_ hq_
  subst ho_
  refine aS _ hp_ hq_ (ai (aa (vI s_7) (aa (vI s_7) (af ?_))))
  obtain rfl:=ae hF
  exact ay (aN [(vI s_7)] ⟨rfl,trivial⟩)
theorem yB {l_1:(List Rect)} {r:Int×Int} (hF:l8 l_1=some r) :
  FnM Tryz.prog 40 [(vL Rect.enc l_1)] [] (.tup [(vI r.1),(vI r.2)]) []:=by
 refine FnM.of_wH ⟨Tryz.prog,13,[],[]⟩ rfl Tryz.func40 rfl rfl (lb_ rfl) (by kernel_rfl) ?_
 unfold l8 at hF
 refine ai (aa (vI 0) (aa (vI 0) (af (ak (ai (aa (vL Rect.enc l_1) ?_))))))
 obtain ⟨r_2,hr_3,hF⟩:=bind_some hF
 refine aI (qG hr_3) rfl hb59 rfl rfl rfl rfl wz (aa (vI r_2) (af (ai (aa (vI r_2) (aa (vB (r_2 != 0)) (af ?_))))))
 rcases aj hF with⟨hc_4,hF⟩|⟨hc_4,hF⟩
 ·refine aC rfl hc_4 (ai (aa (vI r_2) (aa (vI 0) (aa (vI r_2) (af ?_)))))
  obtain rfl:=ae hF
  exact ay (aN [(vI 0),(vI r_2)] ⟨rfl,⟨rfl,trivial⟩⟩)
 ·refine aA rfl hc_4 (ax (ai (aa (vL Rect.enc l_1) ?_)))
  obtain ⟨r_5,hr_6,hF⟩:=bind_some hF
  refine aI (u6 hr_6) rfl hb61 rfl rfl rfl rfl wz ?_
  obtain ⟨r_7,hr_8,hF⟩:=bind_some hF
  refine aI (zz hr_8) rfl hb60 rfl rfl rfl rfl wz (aa (vI r_7) (aa (vI 0) (af ?_)))
  obtain rfl:=ae hF
  exact ay (aN [(vI r_7),(vI 0)] ⟨rfl,⟨rfl,trivial⟩⟩)
theorem Fb {r:Bool} (hF:rT  = some r) :
  FnM Tryz.prog 12 [] [] (vB r) []:=by
 refine FnM.of_wH ⟨Tryz.prog,16,[],[]⟩ rfl Tryz.func12 rfl rfl (lb_ rfl) (by kernel_rfl) ?_
 unfold rT at hF
 refine ai (aa (vB false) (af (ai (aH (.d (.agg (Rect.enc (⟨0,0,2,2⟩:Rect)))) wz (by kernel_rfl) (aH (.d (.agg (Rect.enc (⟨1,1,2,2⟩:Rect)))) wz (by kernel_rfl) (gu (([(⟨0,0,2,2⟩:Rect),(⟨1,1,2,2⟩:Rect)]:List Rect).map Rect.enc) Hl ez79 rfl rfl rfl rfl rfl wz ?_))))))
 obtain ⟨r_1,hr_2,hF⟩:=bind_some hF
 refine aI (yB hr_2) rfl hb40 rfl rfl rfl rfl wz (aa (.tup [(vI r_1.1),(vI r_1.2)]) (aa (vI r_1.1) (aa (vI r_1.2) (aa (vI r_1.1) (aa (vI r_1.2) (af (ak ?_)))))))
 obtain ⟨v_3,h_4,hF⟩:=bind_some hF
 refine aU [(0,(vB v_3))] [] ?_ ?_
 ·refine av (aa (vI r_1.2) (aa (vB (r_1.2==0)) ?_))
  rcases aj h_4 with⟨hc_5,h_4⟩|⟨hc_5,h_4⟩
  ·refine aD rfl hc_5 wz (aH (vI r_1.1) wa rfl (aH (vB (r_1.1==7)) wa rfl (aa (vB (r_1.1==7)) (aa (vB (r_1.1==7)) (af ?_)))))
   obtain rfl:=ae h_4
   exact cu
  ·refine aD rfl hc_5 wz (ah (ah (aa (vB false) (aa (vB false) (af ?_)))))
   obtain rfl:=ae h_4
   exact cu
 ·rintro ⟨⟩ _ sl_ H_ hp_ hq_
  refine aS _ hp_ hq_ ?_
  obtain rfl:=ae hF
  exact ay (aN [(vB v_3)] ⟨rfl,trivial⟩)
theorem tH {l_1:(List Int)} {r:Bool} (hF:jS l_1=some r) :
  FnM Tryz.prog 3 [(vL eI l_1)] [] (vB r) []:=by
 refine FnM.of_wH ⟨Tryz.prog,72,[],[]⟩ rfl Tryz.func3 rfl rfl (lb_ rfl) (by kernel_rfl) ?_
 unfold jS at hF
 refine ai (aa (vB false) (af (ai (aa (vL eI l_1) (aH (.d (.agg (Stream.enc (⟨l_1,0⟩:Stream)))) wz (by kernel_rfl) (o9 0 (.inl rfl) [(vL eI l_1),(vI 0)] rfl rfl wz (λn_2=>aa (.ref n_2 0 0) (af (ai (aa (.ref n_2 0 0) ?_))))))))))
 obtain ⟨r_3,hr_4,hF⟩:=bind_some hF
 refine aZ 0 [0] il ft (si hr_4) rfl hb4 rfl (by kernel_rfl) (by kernel_rfl) (by kernel_rfl) (by kernel_rfl) (by kernel_rfl) (by kernel_rfl) (by kernel_rfl) (by decide) (by kernel_rfl) wz (.d (.agg (Layout.enc r_3.1))) (by kernel_rfl) ([(n_2,some (.cells 2 [(vL eI r_3.2.L),(vI r_3.2.f_at)]))]:Hp) (by kernel_rfl) (aa (.ref n_2 0 0) ?_)
 obtain ⟨r_6,hr_7,hF⟩:=bind_some hF
 refine aZ 0 [0] il ft (o7 hr_7) rfl hb5 rfl (by kernel_rfl) (by kernel_rfl) (by kernel_rfl) (by kernel_rfl) (by kernel_rfl) (by kernel_rfl) (by kernel_rfl) (by decide) (by kernel_rfl) wz (vS r_6.1) (by kernel_rfl) ([(n_2,some (.cells 2 [(vL eI r_6.2.L),(vI r_6.2.f_at)]))]:Hp) (by kernel_rfl) (dM 0 (.inl rfl) z28 rfl wz (λn_9=>bR 0 il ft 1 iK rfl rfl (Layout.v r_3.1) rfl wz (aa (vS r_6.1) (af (ai (aJ 0 1 il ft iK nM rfl rfl (.d (.agg (Layout.enc r_3.1))) rfl wz ?_))))))
 obtain ⟨r_10,hr_11,hF⟩:=bind_some hF
 refine aI (zw hr_11) rfl hb6 rfl rfl rfl rfl wz (aa (.tup [(vS r_10.1),(vI r_10.2)]) (aa (vS r_10.1) (aa (vI r_10.2) (aa (vS r_10.1) (aa (vI r_10.2) (af (ai (aJ 0 1 il ft iK nM rfl rfl (.d (.agg (Layout.enc r_3.1))) rfl wz ?_))))))))
 obtain ⟨r_12,hr_13,hF⟩:=bind_some hF
 refine aI (nZ hr_13) rfl hb7 rfl rfl rfl rfl wz (aa (vI r_12) (aa (vS (⟨#[]⟩:ByteArray)) (af (ak (ai (aa (vI r_12) (aa (vB (r_12==0)) (af ?_))))))))
 obtain ⟨v_14,h_15,hF⟩:=bind_some hF
 refine aU [(5,(vS r_6.1)),(6,(vS r_10.1)),(7,(vI r_10.2)),(8,(vI r_12)),(9,(vS v_14))] [(n_2,some (.cells 2 [(vL eI r_6.2.L),(vI r_6.2.f_at)])),(n_9,some (.cells 4 (Layout.v r_3.1)))] ?_ ?_
 ·rcases aj h_15 with⟨hc_16,h_15⟩|⟨hc_16,h_15⟩
  ·refine aC rfl hc_16 (av (aJ 0 1 il ft iK nM rfl rfl (.d (.agg (Layout.enc r_3.1))) rfl wz ?_))
   obtain ⟨r_17,hr_18,h_15⟩:=bind_some h_15
   refine aI (nH hr_18) rfl hb8 rfl rfl rfl rfl wz (aa (vS r_17) (af ?_))
   obtain rfl:=ae h_15
   exact cu
  ·refine aA rfl hc_16 (ax ?_)
   obtain rfl:=ae h_15
   exact cu
 ·rintro ⟨⟩ _ sl_ H_ hp_ hq_
  refine aS _ hp_ hq_ (ai (aa (vS r_6.1) ?_))
  obtain ⟨r_19,hr_20,hF⟩:=bind_some hF
  refine aI (yA hr_20) rfl hb9 rfl rfl rfl rfl wz (aa (.tup [(.d (.agg (Layout.enc r_19.1))),(vI r_19.2.1),(vI r_19.2.2)]) (aa (.d (.agg (Layout.enc r_19.1))) (aa (vI r_19.2.1) (aa (vI r_19.2.2) (dM 0 (.inl rfl) z28 rfl wz (λn_21=>bR 0 il ft 2 iK rfl rfl (Layout.v r_19.1) rfl wz (aa (vI r_19.2.1) (aa (vI r_19.2.2) (af (ai (aa (vS r_6.1) ?_)))))))))))
  obtain ⟨r_22,hr_23,hF⟩:=bind_some hF
  refine aI (uf hr_23) rfl hb10 rfl rfl rfl rfl wz (aa (.tup [(.d (.agg (Layout.enc r_22.1))),(vI r_22.2.1),(vI r_22.2.2)]) (aa (.d (.agg (Layout.enc r_22.1))) (aa (vI r_22.2.1) (aa (vI r_22.2.2) (dM 0 (.inl rfl) z28 rfl wz (λn_24=>bR 0 il ft 3 iK rfl rfl (Layout.v r_22.1) rfl wz (aa (vI r_22.2.1) (aa (vI r_22.2.2) (af (ak ?_))))))))))
  obtain ⟨v_25,h_26,hF⟩:=bind_some hF
  refine aU [(2,(vB v_25))] [(n_2,some (.cells 2 [(vL eI r_6.2.L),(vI r_6.2.f_at)])),(n_9,some (.cells 4 (Layout.v r_3.1))),(n_21,some (.cells 4 (Layout.v r_19.1))),(n_24,some (.cells 4 (Layout.v r_22.1)))] ?_ ?_
  ·refine av (aa (vI r_10.2) (aa (vI r_12) (aa (vB (r_10.2==r_12)) ?_)))
   rcases aj h_26 with⟨hc_27,h_26⟩|⟨hc_27,h_26⟩
   ·refine aD rfl hc_27 wz (aH (vS r_10.1) wa rfl (aH (vS v_14) wa rfl (aH (vB (sEq r_10.1 v_14)) wa rfl (aa (vB (sEq r_10.1 v_14)) ?_))))
    rcases aj h_26 with⟨hc_28,h_26⟩|⟨hc_28,h_26⟩
    ·refine aD rfl hc_28 wz (aJ 0 2 il ft iK nM rfl rfl (.d (.agg (Layout.enc r_19.1))) rfl wa (aJ 0 3 il ft iK nM rfl rfl (.d (.agg (Layout.enc r_22.1))) rfl wa ?_))
     obtain ⟨r_29,hr_30,h_26⟩:=bind_some h_26
     refine aI (uK hr_30) rfl hb11 rfl rfl rfl rfl wa (aa (vB r_29) ?_)
     rcases aj h_26 with⟨hc_31,h_26⟩|⟨hc_31,h_26⟩
     ·refine aD rfl hc_31 wz (aH (vI r_19.2.1) wa rfl (aH (vI r_22.2.1) wa rfl (aH (vB (r_19.2.1==r_22.2.1)) wa rfl (aa (vB (r_19.2.1==r_22.2.1)) ?_))))
      rcases aj h_26 with⟨hc_32,h_26⟩|⟨hc_32,h_26⟩
      ·refine aD rfl hc_32 wz (aH (vI r_19.2.2) wa rfl (aH (vI r_22.2.2) wa rfl (aH (vB (r_19.2.2==r_22.2.2)) wa rfl (aa (vB (r_19.2.2==r_22.2.2)) ?_))))
       rcases aj h_26 with⟨hc_33,h_26⟩|⟨hc_33,h_26⟩
       ·refine aD rfl hc_33 wz ?_
        obtain ⟨r_34,hr_35,h_26⟩:=bind_some h_26
        refine aI (Fb hr_35) rfl hb12 rfl rfl rfl rfl wa (aa (vB r_34) (aa (vB r_34) (af ?_)))
        obtain rfl:=ae h_26
        exact cu
       ·refine aD rfl hc_33 wz (ah (aa (vB false) (aa (vB false) (af ?_))))
        obtain rfl:=ae h_26
        exact cu
      ·refine aD rfl hc_32 wz (ah (ah (ah (aa (vB false) (aa (vB false) (ah (aa (vB false) (aa (vB false) (af ?_)))))))))
       obtain rfl:=ae h_26
       exact cu
     ·refine aD rfl hc_31 wz (ah (ah (ah (aa (vB false) (aa (vB false) (ah (ah (ah (aa (vB false) (aa (vB false) (ah (aa (vB false) (aa (vB false) (af ?_))))))))))))))
      obtain rfl:=ae h_26
      exact cu
    ·refine aD rfl hc_28 wz (ah (ah (ah (aa (vB false) (aa (vB false) (ah (ah (ah (aa (vB false) (aa (vB false) (ah (ah (ah (aa (vB false) (aa (vB false) (ah (aa (vB false) (aa (vB false) (af ?_)))))))))))))))))))
     obtain rfl:=ae h_26
     exact cu
   ·refine aD rfl hc_27 wz (ah (ah (ah (aa (vB false) (aa (vB false) (ah (ah (ah (aa (vB false) (aa (vB false) (ah (ah (ah (aa (vB false) (aa (vB false) (ah (ah (ah (aa (vB false) (aa (vB false) (ah (aa (vB false) (aa (vB false) ?_)))))))))))))))))))))))
    refine af ?_
    obtain rfl:=ae h_26
    exact cu
  ·rintro ⟨⟩ _ sl_ H_ hp_ hq_
   refine aS _ hp_ hq_ ?_
   obtain rfl:=ae hF
   exact ay (aN [(vB v_25)] ⟨rfl,trivial⟩)
end Go.Proofs.YtacmlgpnplklaaaGreatDoor.Law

