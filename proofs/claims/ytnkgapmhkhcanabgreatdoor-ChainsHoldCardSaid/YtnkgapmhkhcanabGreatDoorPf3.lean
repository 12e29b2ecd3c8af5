/-
 The machine computes these plain functions (written by a program of ours).
-/
import Derived.Test.YtnkgapmhkhcanabGreatDoorFacts
import Derived.Test.YtnkgapmhkhcanabGreatDoorDefs
import Derived.Test.YtnkgapmhkhcanabGreatDoorPf2
import Derived.Test.YtnkgapmhkhcanabGreatDoorShelf
open Go Go.Eng Go.Proofs
namespace Go.Proofs.YtnkgapmhkhcanabGreatDoor.Law
set_option maxRecDepth 100000
set_option linter.unusedVariables false
set_option maxHeartbeats 1000000
theorem fP {s1_1:(List Log_)} {s2_2:(List Log_)} {r:Bool} (hF:bU s1_1 s2_2=some r) :
  FnM Tryz.prog 17 [(vL Log_.enc s1_1),(vL Log_.enc s2_2)] [] (vB r) []:=by
 refine FnM.of_wH ⟨Tryz.prog,26,[],[]⟩ rfl Tryz.func17 rfl rfl (lb_ rfl) (by kernel_rfl) ?_
 unfold bU at hF
 refine ai (aa (vB false) (ah (ak (ai (aa (vL Log_.enc s1_1) (bG lX rfl wz (aa (vL Log_.enc s2_2) (bG lX rfl wz (aa (vB ((s1_1.length:Int) != (s2_2.length:Int))) (ah ?_))))))))))
 rcases aj hF with⟨hc_3,hF⟩|⟨hc_3,hF⟩
 ·refine aA rfl hc_3 (ai (aa (vB false) (ah ?_)))
  obtain rfl:=ae hF
  exact ay (aK [(vB false)] ⟨rfl,trivial⟩)
 ·refine ax rfl hc_3 (av (ak (ai (aa (vL Log_.enc s1_1) (bG lX rfl wz (aa (vI 0) (ah ?_)))))))
  obtain ⟨o_12,hj_13,hF⟩:=bind_some hF
  obtain ⟨hn_8,hj_13⟩:=bg hj_13
  refine cK (λ(s_9:Unit)=>[]) (λ(s_9:Unit)=>[]) (λ(k_4:Nat)=>(λ(s_9:Unit)=>[(0,(vL Log_.enc s1_1)),(1,(vL Log_.enc s2_2)),(12,(vI (s1_1.length:Int))),(13,(vI (k_4:Int)))])) (λk x s=>bX s2_2 k x s) o_12 s1_1 () hj_13 rfl (aI rfl) ?_ ?_
  ·rintro ⟨k_4,l_5,s_9⟩ ⟨hL_11,hD_7⟩
   dsimp only at hL_11 hD_7
   cases l_5 with
   | nil =>
    obtain rfl:=ae hL_11
    refine ai (aa (vB (decide ((k_4:Int)<(s1_1.length:Int)))) (ah ?_))
    refine ak (ax rfl (drop_nil hD_7) (aV ?_))
    exact aU (s_9) rfl rfl (aI rfl)
   | cons x_6 l_5 =>
    obtain ⟨c_,hc_10,hL_11⟩:=bind_some hL_11
    refine ai (aa (vB (decide ((k_4:Int)<(s1_1.length:Int)))) (ah ?_))
    refine ak (aA rfl (bz hD_7) (av ?_))
    unfold bX at hc_10
    refine ak (aN (ai (aa (vI (k_4:Int)) (aa (vI (k_4:Int)) (ah (ak (aZ (aa (vL Log_.enc s1_1) (aa (vI (k_4:Int)) (dB kG rfl rfl (bK hD_7) rfl wz (bA fT ni rfl (.d (.agg (Log_.enc x_6))) rfl wz (aa (vL Log_.enc s2_2) (aa (vI (k_4:Int)) ?_)))))))))))))
    obtain ⟨y_14,hy_15,hc_10⟩:=bind_some hc_10
    refine dB kG rfl rfl hy_15 rfl wz (bA fT ni rfl (.d (.agg (Log_.enc y_14))) rfl wz (aG (vB (!((x_6.Player.toList==y_14.Player.toList)&&((x_6.Item.toList==y_14.Item.toList)&&((x_6.No==y_14.No)&&((x_6.Clock==y_14.Clock)&&((x_6.Long==y_14.Long)&&((x_6.Sum.toList==y_14.Sum.toList)&&true)))))))) wz (by kernel_rfl) (ah ?_)))
    rcases aj hc_10 with⟨hc_16,hc_10⟩|⟨hc_16,hc_10⟩
    ·refine aA rfl hc_16 (ai (aa (vB false) (ah ?_)))
     obtain rfl:=ae hc_10
     obtain rfl:=ae hL_11
     obtain rfl:=ae hF
     exact ay (aK [(vB false)] ⟨rfl,trivial⟩)
    ·refine ax rfl hc_16 (av (au (fq (bH hD_7 hn_8) wz rfl (aa (vI ((k_4+1:Nat):Int)) (ah ?_)))))
     obtain rfl:=ae hc_10
     exact aS (k_4+1,l_5,()) ⟨hL_11,aR hD_7⟩ (ls_ _) rfl (aI rfl)
  ·rintro s_9 ho_ sl_ H_ hp_ hq_
   subst ho_
   refine aO _ hp_ hq_ (ai (aa (vB true) (ah ?_)))
   obtain rfl:=ae hF
   exact ay (aK [(vB true)] ⟨rfl,trivial⟩)
theorem qA {r_1:Rect} {r:Int} (hF:lF r_1=some r) :
  FnM Tryz.prog 85 [(.d (.agg (Rect.enc r_1)))] [] (vI r) []:=by
 refine FnM.of_wH ⟨Tryz.prog,25,[],[]⟩ rfl Tryz.func85 rfl rfl (lb_ rfl) (by kernel_rfl) ?_
 unfold lF at hF
 refine ai (gZ 0 (.inl rfl) (Rect.v r_1) rfl rfl wz (λn_2=>aa (vI 0) (ah (ak (ak ?_)))))
 obtain ⟨v_3,h_4,hF⟩:=bind_some hF
 refine aM [(1,(.ref n_2 0 0)),(10,(vB v_3))] [(n_2,some (.cells 4 (Rect.v r_1)))] ?_ ?_
 ·refine au (aJ Ab rfl 0 rfl wz (aH 0 0 il ft sz3 ag3 rfl rfl (vI r_1.X) rfl wz ?_))
  obtain ⟨r_5,hr_6,h_4⟩:=bind_some h_4
  refine aB (aW hr_6) rfl pU rfl rfl rfl rfl wz ?_
  rcases aj h_4 with⟨hc_7,h_4⟩|⟨hc_7,h_4⟩
  ·refine aC rfl hc_7 wz (af (af (af (aa (vB true) (ah ?_)))))
   obtain rfl:=ae h_4
   exact cu
  ·refine aC rfl hc_7 wz (aJ wY rfl 1 rfl wa (aH 0 0 il ft sz3 ag3 rfl rfl (vI r_1.Y) rfl wa ?_))
   obtain ⟨r_8,hr_9,h_4⟩:=bind_some h_4
   refine aB (aW hr_9) rfl pU rfl rfl rfl rfl wa (aa (vB r_8) (ah ?_))
   obtain rfl:=ae h_4
   exact cu
 ·rintro ⟨⟩ _ sl_ H_ hp_ hq_
  refine aO _ hp_ hq_ ?_
  rcases aj hF with⟨hc_10,hF⟩|⟨hc_10,hF⟩
  ·refine aA rfl hc_10 (ai (aa (vI 1) (ah ?_)))
   obtain rfl:=ae hF
   exact ay (aK [(vI 1)] ⟨rfl,trivial⟩)
  ·refine ax rfl hc_10 (av (ak (ak ?_)))
   obtain ⟨v_11,h_12,hF⟩:=bind_some hF
   refine aM [(24,(vB v_11))] [(n_2,some (.cells 4 (Rect.v r_1)))] ?_ ?_
   ·refine au (aJ Gt rfl 2 rfl wz (aH 0 0 il ft sz3 ag3 rfl rfl (vI r_1.W) rfl wz (aJ Ab rfl 0 rfl wz (aH 0 0 il ft sz3 ag3 rfl rfl (vI r_1.X) rfl wz (aa (vI (w64 (100000-r_1.X))) ?_)))))
    obtain ⟨r_13,hr_14,h_12⟩:=bind_some h_12
    refine aB (aW hr_14) rfl pU rfl rfl rfl rfl wz ?_
    rcases aj h_12 with⟨hc_15,h_12⟩|⟨hc_15,h_12⟩
    ·refine aC rfl hc_15 wz (af (af (af (af (af (af (aa (vB true) (ah ?_))))))))
     obtain rfl:=ae h_12
     exact cu
    ·refine aC rfl hc_15 wz (aJ Dv rfl 3 rfl wa (aH 0 0 il ft sz3 ag3 rfl rfl (vI r_1.H) rfl wa (aJ wY rfl 1 rfl wa (aH 0 0 il ft sz3 ag3 rfl rfl (vI r_1.Y) rfl wa (aG (vI (w64 (100000-r_1.Y))) wa rfl ?_)))))
     obtain ⟨r_16,hr_17,h_12⟩:=bind_some h_12
     refine aB (aW hr_17) rfl pU rfl rfl rfl rfl wa (aa (vB r_16) (ah ?_))
     obtain rfl:=ae h_12
     exact cu
   ·rintro ⟨⟩ _ sl_ H_ hp_ hq_
    refine aO _ hp_ hq_ ?_
    rcases aj hF with⟨hc_18,hF⟩|⟨hc_18,hF⟩
    ·refine aA rfl hc_18 (ai (aa (vI 1) (ah ?_)))
     obtain rfl:=ae hF
     exact ay (aK [(vI 1)] ⟨rfl,trivial⟩)
    ·refine ax rfl hc_18 (av (ai (aa (vI 0) (ah ?_))))
     obtain rfl:=ae hF
     exact ay (aK [(vI 0)] ⟨rfl,trivial⟩)
theorem wP {l_1:(List Rect)} {r:Int} (hF:kr l_1=some r) :
  FnM Tryz.prog 53 [(vL Rect.enc l_1)] [] (vI r) []:=by
 refine FnM.of_wH ⟨Tryz.prog,21,[],[]⟩ rfl Tryz.func53 rfl rfl (lb_ rfl) (by kernel_rfl) ?_
 unfold kr at hF
 refine ai (aa (vI 0) (ah (ak (ai (aa (vL Rect.enc l_1) (bG AC rfl wz (aa (vB (decide ((l_1.length:Int)>2000))) (ah ?_))))))))
 rcases aj hF with⟨hc_2,hF⟩|⟨hc_2,hF⟩
 ·refine aA rfl hc_2 (ai (aa (vI 2) (ah ?_)))
  obtain rfl:=ae hF
  exact ay (aK [(vI 2)] ⟨rfl,trivial⟩)
 ·refine ax rfl hc_2 (av (ak (ai (aa (vL Rect.enc l_1) (bG AC rfl wz (aa (vI 0) (ah ?_)))))))
  obtain ⟨o_11,hj_12,hF⟩:=bind_some hF
  obtain ⟨hn_7,hj_12⟩:=bg hj_12
  refine cK (λ(s_8:Unit)=>[]) (λ(s_8:Unit)=>[]) (λ(k_3:Nat)=>(λ(s_8:Unit)=>[(9,(vL Rect.enc l_1)),(10,(vI (l_1.length:Int))),(11,(vI (k_3:Int)))])) (λk x s=>kP k x s) o_11 l_1 () hj_12 rfl (aI rfl) ?_ ?_
  ·rintro ⟨k_3,l_4,s_8⟩ ⟨hL_10,hD_6⟩
   dsimp only at hL_10 hD_6
   cases l_4 with
   | nil =>
    obtain rfl:=ae hL_10
    refine ai (aa (vB (decide ((k_3:Int)<(l_1.length:Int)))) (ah ?_))
    refine ak (ax rfl (drop_nil hD_6) (aV ?_))
    exact aU (s_8) rfl rfl (aI rfl)
   | cons x_5 l_4 =>
    obtain ⟨c_,hc_9,hL_10⟩:=bind_some hL_10
    refine ai (aa (vB (decide ((k_3:Int)<(l_1.length:Int)))) (ah ?_))
    refine ak (aA rfl (bz hD_6) (av ?_))
    unfold kP at hc_9
    refine ak (aN (ai (dB E5 rfl rfl (bK hD_6) rfl wz (bA wR Iz rfl (.d (.agg (Rect.enc x_5))) rfl wz (dK 0 (.inl rfl) z78 rfl wz (λn_13=>gP 0 il ft 0 wR rfl rfl (Rect.v x_5) rfl wz (ah (ai (aH 0 0 il ft wR Iz rfl rfl (.d (.agg (Rect.enc x_5))) rfl wz ?_)))))))))
    obtain ⟨r_14,hr_15,hc_9⟩:=bind_some hc_9
    refine aB (qA hr_15) rfl hb85 rfl rfl rfl rfl wz (aa (vI r_14) (ah (ai (aa (vI r_14) (aa (vB (r_14 != 0)) (ah ?_))))))
    rcases aj hc_9 with⟨hc_16,hc_9⟩|⟨hc_16,hc_9⟩
    ·refine aA rfl hc_16 (ai (aa (vI r_14) (aa (vI r_14) (ah ?_))))
     obtain rfl:=ae hc_9
     obtain rfl:=ae hL_10
     obtain rfl:=ae hF
     exact ay (aK [(vI r_14)] ⟨rfl,trivial⟩)
    ·refine ax rfl hc_16 (av (au (fq (bH hD_6 hn_7) wz rfl (aa (vI ((k_3+1:Nat):Int)) (ah ?_)))))
     obtain rfl:=ae hc_9
     exact aS (k_3+1,l_4,()) ⟨hL_10,aR hD_6⟩ (ls_ _) rfl (aI rfl)
  ·rintro s_8 ho_ sl_ H_ hp_ hq_
   subst ho_
   refine aO _ hp_ hq_ (ai (aa (vI 0) (ah ?_)))
   obtain rfl:=ae hF
   exact ay (aK [(vI 0)] ⟨rfl,trivial⟩)
theorem mI {n_1:Int} {r:Bool} (hF:fO n_1=some r) :
  FnM Tryz.prog 122 [.nil,(vI n_1)] [] (kV r (aD 0) 4 ([]:List Rect)) (kO r 4):=by
 refine FnM.of_wH ⟨Tryz.prog,27,[],[]⟩ rfl Tryz.func122 rfl rfl (lb_ rfl) (by kernel_rfl) ?_
 unfold fO at hF
 refine ai (aa .nil (ah (ak (ai (aa (vI n_1) (aa (vB (decide (n_1<0))) (ah ?_)))))))
 rcases aj hF with⟨hc_2,hF⟩|⟨hc_2,hF⟩
 ·refine aA rfl hc_2 (au ?_)
  cases hF
 ·refine ax rfl hc_2 (av (ak (ai (aa (vI n_1) (aa .nil (F6 J7 rfl wz (aa .nil (Fu AC rfl wz (aa (vI (w64 (0-0))) (aa (vI (w64 (n_1-(w64 (0-0))))) (aa (vI (w64 (n_1-(w64 (0-0))))) (ah (ai (aa (vI (w64 (n_1-(w64 (0-0))))) (aa (vB (decide ((w64 (n_1-(w64 (0-0))))>0))) (ah ?_))))))))))))))))
  rcases aj hF with⟨hc_3,hF⟩|⟨hc_3,hF⟩
  ·refine aA rfl hc_3 (au (aa .nil (aa .nil (F6 J7 rfl wz (aG .nil wz (by kernel_rfl) (aa (vI (w64 (n_1-(w64 (0-0))))) ?_))))))
   obtain ⟨_,hz_5,hF⟩:=bind_some hF
   refine Oc (enc:=Rect.enc) 0 (.inl rfl) J7 (by kernel_rfl) wR z78 rfl (by decide) by78 rfl rfl hz_5 wz (λn_4=>aa .nil (Fu AC rfl wz (Na (m:=0) AC wR rfl rfl rfl (Nat.zero_le _) wz (aa (.vs n_4 4 0 0) (ah (ai (aa (.vs n_4 4 0 0) (aa (.vs n_4 4 0 0) (ah ?_)))))))))
   obtain rfl:=ae hF
   exact ay (finK (.inr rfl) 0 rfl rfl)
  ·refine ax rfl hc_3 (av (ai (aa .nil (aa .nil (ah ?_)))))
   obtain rfl:=ae hF
   exact ay (finK0 (.inr rfl) rfl)
theorem mG {slices_1:(List (List Rect))} {r:(List Rect)} (hF:dQ slices_1=some r) :
  FnM Tryz.prog 86 [(vL (eL Rect.enc) slices_1)] [] (vL Rect.enc r) []:=by
 refine FnM.of_wH ⟨Tryz.prog,36,[],[]⟩ rfl Tryz.func86 rfl rfl (lb_ rfl) (by kernel_rfl) ?_
 unfold dQ at hF
 refine ai (aa .nil (ah (ai (aa (vI 0) (ah (ak (ai (aa (vL (eL Rect.enc) slices_1) (bG un182 rfl wz (aa (vI 0) (ah ?_)))))))))))
 obtain ⟨o_10,hj_11,hF⟩:=bind_some hF
 obtain ⟨hn_6,hj_11⟩:=bg hj_11
 refine cK (λ(s_7:Int)=>[(0,(vL (eL Rect.enc) slices_1)),(3,(vI s_7))]) (λ(s_7:Int)=>[]) (λ(k_2:Nat)=>(λ(s_7:Int)=>[(0,(vL (eL Rect.enc) slices_1)),(3,(vI s_7)),(9,(vL (eL Rect.enc) slices_1)),(10,(vI (slices_1.length:Int))),(11,(vI (k_2:Int)))])) (λk x s=>fD k x s) o_10 slices_1 0 hj_11 rfl (aI rfl) ?_ ?_
 ·rintro ⟨k_2,l_3,s_7⟩ ⟨hL_9,hD_5⟩
  dsimp only at hL_9 hD_5
  cases l_3 with
  | nil =>
   obtain rfl:=ae hL_9
   refine ai (aa (vB (decide ((k_2:Int)<(slices_1.length:Int)))) (ah ?_))
   refine ak (ax rfl (drop_nil hD_5) (aV ?_))
   exact aU (s_7) rfl rfl (aI rfl)
  | cons x_4 l_3 =>
   obtain ⟨c_,hc_8,hL_9⟩:=bind_some hL_9
   refine ai (aa (vB (decide ((k_2:Int)<(slices_1.length:Int)))) (ah ?_))
   refine ak (aA rfl (bz hD_5) (av ?_))
   unfold fD at hc_8
   refine ak (aN (ai (dB MO rfl rfl (bK hD_5) rfl wz (bA Md Ls rfl (vL Rect.enc x_4) rfl wz (aa (vL Rect.enc x_4) (ah (ai (aa (vI s_7) (aa (vL Rect.enc x_4) (bG AC rfl wz (aa (vI (w64 (s_7+(x_4.length:Int)))) (aa (vI (w64 (s_7+(x_4.length:Int)))) (ah (ai (aa (vI (w64 (s_7+(x_4.length:Int)))) (aa (vB (decide ((w64 (s_7+(x_4.length:Int)))<0))) (ah ?_)))))))))))))))))
   obtain ⟨v_12,h_13,hc_8⟩:=bind_some hc_8
   refine aM [(0,(vL (eL Rect.enc) slices_1)),(3,(vI (w64 (s_7+(x_4.length:Int))))),(9,(vL (eL Rect.enc) slices_1)),(10,(vI (slices_1.length:Int))),(11,(vI (k_2:Int)))] [] ?_ ?_
   ·rcases aj h_13 with⟨hc_14,h_13⟩|⟨hc_14,h_13⟩
    ·refine aA rfl hc_14 (au ?_)
     cases h_13
    ·refine ax rfl hc_14 (av ?_)
     obtain rfl:=ae h_13
     exact cu
   ·rintro ⟨⟩ _ sl_ H_ hp_ hq_
    refine aO _ hp_ hq_ (au (fq (bH hD_5 hn_6) wz rfl (aa (vI ((k_2+1:Nat):Int)) (ah ?_))))
    obtain rfl:=ae hc_8
    exact aS (k_2+1,l_3,(w64 (s_7+(x_4.length:Int)))) ⟨hL_9,aR hD_5⟩ (ls_ _) rfl (aI rfl)
 ·rintro s_7 ho_ sl_ H_ hp_ hq_
  subst ho_
  refine aO _ hp_ hq_ (ai (aa (vI s_7) ?_))
  obtain ⟨b_15,hr_16,hF⟩:=bind_some hF
  refine KI (enc:=Rect.enc) (mI hr_16) rfl hb122 (by kernel_rfl) rfl (by kernel_rfl) wz (λn_17=>aa (kV b_15 n_17 4 ([]:List Rect)) (ah (ak (ai (aa (vL (eL Rect.enc) slices_1) (bG un182 rfl wz (aa (vI 0) (ah ?_))))))))
  obtain ⟨o_28,hj_29,hF⟩:=bind_some hF
  obtain ⟨hn_22,hj_29⟩:=bg hj_29
  refine jc (σ:=(List Rect)) (N:=Nm) (λp=>(λ(s_23:List Rect) (n_25:Nm)=>([(6,(kV b_15 n_25 4 s_23))]:SL_)) p.1 p.2) (λp=>(λ(s_23:List Rect) (n_25:Nm)=>([(n_25,kB b_15 4 Rect.enc s_23)]:Hp)) p.1 p.2) (λ(k_18:Nat)=>(λp=>(λ(s_23:List Rect) (n_25:Nm)=>([(6,(kV b_15 n_25 4 s_23)),(25,(vL (eL Rect.enc) slices_1)),(26,(vI (slices_1.length:Int))),(27,(vI (k_18:Int)))]:SL_)) p.1 p.2)) (λk x s=>fB k x s) o_28 slices_1 (([]:List Rect),n_17) hj_29 rfl (aI rfl) ?_ ?_
  ·rintro ⟨k_18,l_19,s_23,n_25⟩ ⟨hL_27,hD_21⟩
   dsimp only at hL_27 hD_21
   cases l_19 with
   | nil =>
    obtain rfl:=ae hL_27
    refine ai (aa (vB (decide ((k_18:Int)<(slices_1.length:Int)))) (ah ?_))
    refine ak (ax rfl (drop_nil hD_21) (aV ?_))
    exact aU (s_23,n_25) rfl rfl (aI rfl)
   | cons x_20 l_19 =>
    obtain ⟨c_,hc_26,hL_27⟩:=bind_some hL_27
    refine ai (aa (vB (decide ((k_18:Int)<(slices_1.length:Int)))) (ah ?_))
    refine ak (aA rfl (bz hD_21) (av ?_))
    unfold fB at hc_26
    refine ak (aN (ai (dB MO rfl rfl (bK hD_21) rfl wz (bA Md Ls rfl (vL Rect.enc x_20) rfl wz (aa (vL Rect.enc x_20) (ah (au (aa (kV b_15 n_25 4 s_23) (aa (vL Rect.enc x_20) ?_)))))))))
    obtain ⟨a_30,hz_31,hc_26⟩:=bind_some hc_26
    refine OM 0 il ft (i:=0) J7 J7 wR z78 rfl (by decide) by78 (by decide) (λ_=>rfl) rfl rfl rfl hz_31 wz (λn_32=>aa (kV b_15 n_32 4 a_30) (ah (au (fq (bH hD_21 hn_22) wz rfl (aa (vI ((k_18+1:Nat):Int)) (ah ?_))))))
    obtain rfl:=ae hc_26
    exact aS (k_18+1,l_19,a_30,n_32) ⟨hL_27,aR hD_21⟩ (ls_ _) rfl (aI rfl)
  ·rintro ⟨s_23,n_25⟩ ho_ sl_ H_ hp_ hq_
   subst ho_
   refine aO _ hp_ hq_ (ai (aa (kV b_15 n_25 4 s_23) (aa (kV b_15 n_25 4 s_23) (ah (Ob 0 rfl (Jh 2 0 rfl rfl (Jh 6 0 rfl rfl (Jh 35 0 rfl rfl ?_))))))))
   obtain rfl:=ae hF
   exact ay (aK [(vL Rect.enc s_23)] ⟨rfl,trivial⟩)
theorem rY {x r:(List Int)} (hF:ig x=some r) :
  FnM Tryz.prog 87 [(dV (aD 0) 1 x)] (([]:List Box)++gI 1 eI x) (.tup []) (([]:List Box).map some++gT x (gB 1 eI r)) :=
 NV Tryz.slices_Sort_int Tryz.slices_Sort_int_none hF
theorem qm {s_1:(List Int)} {r:(List Int)} (hF:eH s_1=some r) :
  FnM Tryz.prog 88 [(dV (aD 0) 1 s_1)] (([]:List Box)++gI 1 eI s_1) (vL eI r) (([]:List Box).map some++gT s_1 none):=by
 refine FnM.of_wHv ⟨Tryz.prog,61,[],[]⟩ rfl Tryz.func88 rfl rfl (lb_ rfl) (by kernel_rfl) ?_
 unfold eH at hF
 refine ai (aa .nil (ah (ak (ai (aa (dV (aD 0) 1 s_1) (Ay uF rfl wz (aa (vB (decide ((s_1.length:Int)<2))) (ah ?_))))))))
 rcases aj hF with⟨hc_2,hF⟩|⟨hc_2,hF⟩
 ·refine aA rfl hc_2 (ai (aa (dV (aD 0) 1 s_1) (aa (dV (aD 0) 1 s_1) (ah (gG 0 rfl (nS 0 0 rfl rfl (nS 2 0 rfl rfl (nS 6 0 rfl rfl (nS 9 0 rfl rfl (xM (i:=0) rfl ?_))))))))))
  obtain rfl:=ae hF
  exact ay (yZ (bs:=([]:List Box)) (os:=([]:List Box)) (xs:=s_1) (o:=none) (.inr rfl) [(vL eI s_1)] ⟨rfl,trivial⟩ rfl rfl rfl rfl rfl (by kernel_rfl) sD rfl)
 ·refine ax rfl hc_2 (av (ak (ai (aa (vI 1) (ah ?_)))))
  obtain ⟨o_11,hj_12,hF⟩:=bind_some hF
  obtain ⟨nq_52,hj_12⟩:=cB hj_12
  refine dJ (λ(s_8:Int)=>[(0,(dV (aD 0) 1 s_1))]) (λ(s_8:Int)=>[((aD 0),gB 1 eI s_1)]) (λ(k_3:Nat)=>(λ(s_8:Int)=>[(0,(dV (aD 0) 1 s_1)),(3,(vI s_8))])) (λs=>dI s_1 s) o_11 nq_52 1 hj_12 rfl (aI rfl) ?_ ?_
  ·rintro ⟨k_3,s_8⟩ hL_10
   dsimp only at hL_10
   cases k_3 with
   | zero=>cases hL_10
   | succ k_3 =>
    obtain ⟨c_,hc_9,hL_10⟩:=bind_some hL_10
    unfold dI at hc_9
    refine ak (ai (aa (vI s_8) (aa (dV (aD 0) 1 s_1) (Ay uF rfl wz (aa (vB (decide (s_8<(s_1.length:Int)))) (ah ?_))))))
    rcases aj hc_9 with⟨hc_13,hc_9⟩|⟨hc_13,hc_9⟩
    ·refine aA rfl hc_13 (av (ak (aN (ak (aZ (aa (dV (aD 0) 1 s_1) (aa (vI s_8) ?_)))))))
     obtain ⟨_,hi_14,hc_9⟩:=bind_some hc_9
     refine lM qV rfl rfl (jO hi_14) (gL hi_14) wz ?_
     obtain ⟨e_15,hy_16,hc_9⟩:=bind_some hc_9
     refine lN 3 0 (.inr (by kernel_rfl)) (λ_ _ ag=>trivial) sz3 ag3 rfl rfl hy_16 (vI e_15) rfl wz (aa (dV (aD 0) 1 s_1) (aa (vI s_8) (aa (vI (w64 (s_8-1))) ?_)))
     obtain ⟨_,hi_17,hc_9⟩:=bind_some hc_9
     refine lM qV rfl rfl (jO hi_17) (gL hi_17) wz ?_
     obtain ⟨e_18,hy_19,hc_9⟩:=bind_some hc_9
     refine lN 8 0 (.inr (by kernel_rfl)) (λ_ _ ag=>⟨.inl ⟨rfl,rfl⟩,trivial⟩) sz3 ag3 rfl rfl hy_19 (vI e_18) rfl wz (aa (vB (e_15==e_18)) (ah ?_))
     rcases aj hc_9 with⟨hc_20,hc_9⟩|⟨hc_20,hc_9⟩
     ·refine aA rfl hc_20 (ai (aa (dV (aD 0) 1 s_1) (aa (vI s_8) ?_)))
      obtain ⟨_,hn_21,hc_9⟩:=bind_some hc_9
      replace hn_21:=OA hn_21
      refine eO (v':=(vV (aD 0) 1 s_1)) 0 rfl (o5 hn_21) (eO (v':=(vV (aD 0) 1 s_1)) 11 rfl (o5 hn_21) (eO (v':=(vV (aD 0) 1 s_1)) 16 rfl (o5 hn_21) (eO (v':=(vV (aD 0) 1 s_1)) 20 rfl (o5 hn_21) (eO (v':=(vV (aD 0) 1 s_1)) 26 rfl (o5 hn_21) (KT 0 rfl (KH hn_21) ?_)))))
      obtain ⟨_,hr_22,hc_9⟩:=bind_some hc_9
      refine zK uF sz3 rfl rfl hr_22 wz (aa (.vs (aD 0) 1 ((s_8).toNat) (((s_1.length:Int)).toNat-(s_8).toNat)) (ah (ak (ai (aa (vI 1) (ah ?_))))))
      obtain ⟨o_31,hj_32,hc_9⟩:=bind_some hc_9
      obtain ⟨nq_51,hj_32⟩:=cB hj_32
      refine dJ (λ(s_28:(List Int)×Int×Int)=>[(0,(vV (aD 0) 1 s_28.1)),(3,(vI s_28.2.1))]) (λ(s_28:(List Int)×Int×Int)=>[((aD 0),some (bV 1 eI s_28.1))]) (λ(k_23:Nat)=>(λ(s_28:(List Int)×Int×Int)=>[(0,(vV (aD 0) 1 s_28.1)),(3,(vI s_28.2.1)),(4,(.vs (aD 0) 1 ((s_8).toNat) (((s_1.length:Int)).toNat-(s_8).toNat))),(5,(vI s_28.2.2))])) (λs=>fw s_1 s_8 s) o_31 nq_51 (s_1,s_8,1) hj_32 rfl (aI rfl) ?_ ?_
      ·rintro ⟨k_23,s_28⟩ hL_30
       dsimp only at hL_30
       cases k_23 with
       | zero=>cases hL_30
       | succ k_23 =>
        obtain ⟨c_,hc_29,hL_30⟩:=bind_some hL_30
        unfold fw at hc_29
        refine ak (ai (aa (vI s_28.2.2) (aa (.vs (aD 0) 1 ((s_8).toNat) (((s_1.length:Int)).toNat-(s_8).toNat)) (NF uF rfl wz (aa (vB (decide (s_28.2.2<(((((s_1.length:Int)).toNat-(s_8).toNat):Nat):Int)))) (ah ?_))))))
        rcases aj hc_29 with⟨hc_33,hc_29⟩|⟨hc_33,hc_29⟩
        ·refine aA rfl hc_33 (av (ak (aN (ak (aZ (aa (.vs (aD 0) 1 ((s_8).toNat) (((s_1.length:Int)).toNat-(s_8).toNat)) (aa (vI s_28.2.2) ?_)))))))
         obtain ⟨_,hi_34,hc_29⟩:=bind_some hc_29
         refine yw qV rfl rfl (wO hi_34) (q9 hi_34) wz ?_
         obtain ⟨e_35,hy_36,hc_29⟩:=bind_some hc_29
         refine Db 3 0 (.inr (by kernel_rfl)) (λ_ _ ag=>trivial) sz3 ag3 rfl rfl hy_36 (vI e_35) rfl wz (aa (.vs (aD 0) 1 ((s_8).toNat) (((s_1.length:Int)).toNat-(s_8).toNat)) (aa (vI s_28.2.2) (aa (vI (w64 (s_28.2.2-1))) ?_)))
         obtain ⟨_,hi_37,hc_29⟩:=bind_some hc_29
         refine yw qV rfl rfl (wO hi_37) (q9 hi_37) wz ?_
         obtain ⟨e_38,hy_39,hc_29⟩:=bind_some hc_29
         refine Db 8 0 (.inr (by kernel_rfl)) (λ_ _ ag=>⟨.inl ⟨rfl,rfl⟩,trivial⟩) sz3 ag3 rfl rfl hy_39 (vI e_38) rfl wz (aa (vB (e_35 != e_38)) (ah ?_))
         obtain ⟨v_40,h_41,hc_29⟩:=bind_some hc_29
         refine aM [(0,(vV (aD 0) 1 v_40.1)),(3,(vI v_40.2)),(4,(.vs (aD 0) 1 ((s_8).toNat) (((s_1.length:Int)).toNat-(s_8).toNat))),(5,(vI s_28.2.2))] [((aD 0),some (bV 1 eI v_40.1))] ?_ ?_
         ·rcases aj h_41 with⟨hc_42,h_41⟩|⟨hc_42,h_41⟩
          ·refine aA rfl hc_42 (ai (aa (vV (aD 0) 1 s_28.1) (aa (vI s_28.2.1) (aa (.vs (aD 0) 1 ((s_8).toNat) (((s_1.length:Int)).toNat-(s_8).toNat)) (aa (vI s_28.2.2) ?_)))))
           obtain ⟨_,hi_43,h_41⟩:=bind_some h_41
           refine yw qV rfl rfl (wO hi_43) (q9 hi_43) wz ?_
           obtain ⟨e_44,hy_45,h_41⟩:=bind_some h_41
           refine Db 0 0 il ft sz3 ag3 rfl rfl hy_45 (vI e_44) rfl wz ?_
           obtain ⟨_,hi_46,h_41⟩:=bind_some h_41
           refine yw qV rfl rfl (jO hi_46) (gL hi_46) wz ?_
           obtain ⟨e_47,hy_48,h_41⟩:=bind_some h_41
           refine Bl 0 il ft 0 sz3 rfl rfl hy_48 e_44 rfl wz (eO (v':=(vV (aD 0) 1 (s_28.1.set (0+(s_28.2.1).toNat) e_44))) 0 rfl (wV (by simp)) (eO (v':=(vV (aD 0) 1 (s_28.1.set (0+(s_28.2.1).toNat) e_44))) 45 rfl (wV (by simp)) (ah (au (aa (vI s_28.2.1) (aa (vI (w64 (s_28.2.1+1))) (aa (vI (w64 (s_28.2.1+1))) (ah ?_))))))))
           obtain rfl:=ae h_41
           exact cu
          ·refine ax rfl hc_42 (av ?_)
           obtain rfl:=ae h_41
           exact cu
         ·rintro ⟨⟩ _ sl_ H_ hp_ hq_
          refine aO _ hp_ hq_ (au (aa (vI s_28.2.2) (aa (vI (w64 (s_28.2.2+1))) (aa (vI (w64 (s_28.2.2+1))) (ah ?_)))))
          obtain rfl:=ae hc_29
          exact aS (k_23,(v_40.1,v_40.2,(w64 (s_28.2.2+1)))) hL_30 (ls_ _) rfl (aI rfl)
        ·refine ax rfl hc_33 (aV ?_)
         obtain rfl:=ae hc_29
         obtain rfl:=ae hL_30
         exact aU ((s_28.1,s_28.2.1,s_28.2.2)) rfl rfl (aI rfl)
      ·rintro s_28 ho_ sl_ H_ hp_ hq_
       subst ho_
       refine aO _ hp_ hq_ (ai (aa (vV (aD 0) 1 s_28.1) (aa (vI s_28.2.1) ?_)))
       obtain ⟨_,hr_49,hc_9⟩:=bind_some hc_9
       refine zK uF sz3 rfl rfl hr_49 wz (Ku (i:=0) 0 il ft 0 IZ sz3 z3 rfl rfl rfl (by decide) rfl (nV hr_49) rfl wz (eO (v':=(vV (aD 0) 1 (s_28.1.take ((s_28.2.1).toNat)++List.replicate (((s_28.1.length:Int)).toNat-(s_28.2.1).toNat) 0++s_28.1.drop (((s_28.2.1).toNat)+(((s_28.1.length:Int)).toNat-(s_28.2.1).toNat))))) 0 rfl (wV (xz (nV hr_49))) (eO (v':=(vV (aD 0) 1 (s_28.1.take ((s_28.2.1).toNat)++List.replicate (((s_28.1.length:Int)).toNat-(s_28.2.1).toNat) 0++s_28.1.drop (((s_28.2.1).toNat)+(((s_28.1.length:Int)).toNat-(s_28.2.1).toNat))))) 54 rfl (wV (xz (nV hr_49))) (ah (ai (aa (vV (aD 0) 1 (s_28.1.take ((s_28.2.1).toNat)++List.replicate (((s_28.1.length:Int)).toNat-(s_28.2.1).toNat) 0++s_28.1.drop (((s_28.2.1).toNat)+(((s_28.1.length:Int)).toNat-(s_28.2.1).toNat)))) (aa (vI s_28.2.1) ?_)))))))
       obtain ⟨_,hr_50,hc_9⟩:=bind_some hc_9
       refine GH uF sz3 rfl rfl hr_50 wz (aa (.vs (aD 0) 1 0 ((s_28.2.1).toNat)) (ah (BV 0 rfl (zA 0 0 rfl rfl (Gf 2 0 rfl rfl (nV hr_50) (zA 54 0 rfl rfl (zA 57 0 rfl rfl (Gf 59 0 rfl rfl (nV hr_50) (xM (i:=0) rfl ?_)))))))))
       obtain rfl:=ae hc_9
       obtain rfl:=ae hL_10
       obtain rfl:=ae hF
       exact ay (yZ (bs:=([]:List Box)) (os:=([]:List Box)) (xs:=s_1) (o:=none) (.inr rfl) [(vL eI (yJ (s_28.1.take ((s_28.2.1).toNat)++List.replicate (((s_28.1.length:Int)).toNat-(s_28.2.1).toNat) 0++s_28.1.drop (((s_28.2.1).toNat)+(((s_28.1.length:Int)).toNat-(s_28.2.1).toNat))) 0 ((s_28.2.1).toNat)))] ⟨rfl,trivial⟩ rfl rfl rfl rfl rfl (by kernel_rfl) sD rfl)
     ·refine ax rfl hc_20 (av (au (aa (vI s_8) (aa (vI (w64 (s_8+1))) (aa (vI (w64 (s_8+1))) (ah ?_))))))
      obtain rfl:=ae hc_9
      exact aS (k_3,(w64 (s_8+1))) hL_10 (ls_ _) rfl (aI rfl)
    ·refine ax rfl hc_13 (aV ?_)
     obtain rfl:=ae hc_9
     obtain rfl:=ae hL_10
     exact aU (s_8) rfl rfl (aI rfl)
  ·rintro s_8 ho_ sl_ H_ hp_ hq_
   subst ho_
   refine aO _ hp_ hq_ (ai (aa (dV (aD 0) 1 s_1) (aa (dV (aD 0) 1 s_1) (ah (gG 0 rfl (nS 0 0 rfl rfl (nS 2 0 rfl rfl (nS 60 0 rfl rfl (xM (i:=0) rfl ?_)))))))))
   obtain rfl:=ae hF
   exact ay (yZ (bs:=([]:List Box)) (os:=([]:List Box)) (xs:=s_1) (o:=none) (.inr rfl) [(vL eI s_1)] ⟨rfl,trivial⟩ rfl rfl rfl rfl rfl (by kernel_rfl) sD rfl)
theorem AP {a_1:Run} {b_2:Run} {r:Int} (hF:sN a_1 b_2=some r) :
  FnM Tryz.prog 126 [(.d (.agg (Run.enc a_1))),(.d (.agg (Run.enc b_2)))] [] (vI r) []:=by
 refine FnM.of_wH ⟨Tryz.prog,10,[],[]⟩ rfl Tryz.func126 rfl rfl (lb_ rfl) (by kernel_rfl) ?_
 unfold sN at hF
 refine ai (gZ 0 (.inl rfl) [(vI a_1.f_from),(vI a_1.f_to)] rfl rfl wz (λn_3=>gZ 0 (.inl rfl) [(vI b_2.f_from),(vI b_2.f_to)] rfl rfl wz (λn_4=>aa (vI 0) (ah (ai (aJ kw rfl 0 rfl wz (aH 0 0 il ft sz3 ag3 rfl rfl (vI a_1.f_from) rfl wz (aJ kw rfl 0 rfl wz (aH 0 1 il ft sz3 ag3 rfl rfl (vI b_2.f_from) rfl wz (aa (vI (w64 (a_1.f_from-b_2.f_from))) (aa (vI (w64 (a_1.f_from-b_2.f_from))) (ah ?_))))))))))))
 obtain rfl:=ae hF
 exact ay (aK [(vI (w64 (a_1.f_from-b_2.f_from)))] ⟨rfl,trivial⟩)
theorem yz {x_1:Int} {r:Int} (hF:ql x_1=some r) :
  FnM Tryz.prog 165 [(.d (.int .u64 x_1))] [] (vI r) []:=by
 refine FnM.of_wH ⟨Tryz.prog,25,[],[]⟩ rfl Tryz.func165 rfl rfl (lb_ rfl) (by kernel_rfl) ?_
 unfold ql at hF
 refine ai (aa (vI 0) (ah (ak (ai (aa (.d (.int .u64 x_1)) (aa (vB (decide (x_1>=4294967296))) (ah ?_)))))))
 obtain ⟨v_2,h_3,hF⟩:=bind_some hF
 refine aM [(0,(.d (.int .u64 v_2.1))),(2,(vI v_2.2))] [] ?_ ?_
 ·rcases aj h_3 with⟨hc_4,h_3⟩|⟨hc_4,h_3⟩
  ·refine aA rfl hc_4 (ai (aa (.d (.int .u64 x_1)) ?_))
   obtain ⟨q_5,hz_6,h_3⟩:=bind_some h_3
   refine H6 rfl rfl hz_6 wz (aa (.d (.int .u64 q_5)) (ah (au (aa (vI 32) (ah ?_)))))
   obtain rfl:=ae h_3
   exact cu
  ·refine ax rfl hc_4 (av ?_)
   obtain rfl:=ae h_3
   exact cu
 ·rintro ⟨⟩ _ sl_ H_ hp_ hq_
  refine aO _ hp_ hq_ (ak (ai (aa (.d (.int .u64 v_2.1)) (aa (vB (decide (v_2.1>=65536))) (ah ?_)))))
  obtain ⟨v_7,h_8,hF⟩:=bind_some hF
  refine aM [(0,(.d (.int .u64 v_7.1))),(2,(vI v_7.2))] [] ?_ ?_
  ·rcases aj h_8 with⟨hc_9,h_8⟩|⟨hc_9,h_8⟩
   ·refine aA rfl hc_9 (ai (aa (.d (.int .u64 v_2.1)) ?_))
    obtain ⟨q_10,hz_11,h_8⟩:=bind_some h_8
    refine H6 rfl rfl hz_11 wz (aa (.d (.int .u64 q_10)) (ah (au (aa (vI v_2.2) (aa (vI (w64 (v_2.2+16))) (aa (vI (w64 (v_2.2+16))) (ah ?_)))))))
    obtain rfl:=ae h_8
    exact cu
   ·refine ax rfl hc_9 (av ?_)
    obtain rfl:=ae h_8
    exact cu
  ·rintro ⟨⟩ _ sl_ H_ hp_ hq_
   refine aO _ hp_ hq_ (ak (ai (aa (.d (.int .u64 v_7.1)) (aa (vB (decide (v_7.1>=256))) (ah ?_)))))
   obtain ⟨v_12,h_13,hF⟩:=bind_some hF
   refine aM [(0,(.d (.int .u64 v_12.1))),(2,(vI v_12.2))] [] ?_ ?_
   ·rcases aj h_13 with⟨hc_14,h_13⟩|⟨hc_14,h_13⟩
    ·refine aA rfl hc_14 (ai (aa (.d (.int .u64 v_7.1)) ?_))
     obtain ⟨q_15,hz_16,h_13⟩:=bind_some h_13
     refine H6 rfl rfl hz_16 wz (aa (.d (.int .u64 q_15)) (ah (au (aa (vI v_7.2) (aa (vI (w64 (v_7.2+8))) (aa (vI (w64 (v_7.2+8))) (ah ?_)))))))
     obtain rfl:=ae h_13
     exact cu
    ·refine ax rfl hc_14 (av ?_)
     obtain rfl:=ae h_13
     exact cu
   ·rintro ⟨⟩ _ sl_ H_ hp_ hq_
    refine aO _ hp_ hq_ (ai (aa (vI v_12.2) (aa (.d (.int .u64 v_12.1)) (qd GX un5 rfl wz ?_))))
    obtain ⟨b_17,hy_18,hF⟩:=bind_some hF
    refine qg un9 rfl rfl hy_18 wz (qd un5 un3 rfl wz (aa (vI (w64 (v_12.2+(w64 (b_17.toNat:Int))))) (aa (vI (w64 (v_12.2+(w64 (b_17.toNat:Int))))) (ah ?_))))
    obtain rfl:=ae hF
    exact ay (aK [(vI (w64 (v_12.2+(w64 (b_17.toNat:Int)))))] ⟨rfl,trivial⟩)
theorem Ah {x_1:Int} {r:Int} (hF:o9 x_1=some r) :
  FnM Tryz.prog 124 [(.d (.int .u64 x_1))] [] (vI r) []:=by
 refine FnM.of_wH ⟨Tryz.prog,8,[],[]⟩ rfl Tryz.func124 rfl rfl (lb_ rfl) (by kernel_rfl) ?_
 unfold o9 at hF
 refine ai (aa (vI 0) (ah (ak (ax rfl rfl (av (ai (aa (.d (.int .u64 x_1)) ?_)))))))
 obtain ⟨r_2,hr_3,hF⟩:=bind_some hF
 refine aB (yz hr_3) rfl hb165 rfl rfl rfl rfl wz (aa (vI r_2) (ah ?_))
 obtain rfl:=ae hF
 exact ay (aK [(vI r_2)] ⟨rfl,trivial⟩)
theorem jF {data_1:(List Run)} {a_2:Int} {b_3:Int} {r:(List Run)} (hF:bI data_1 a_2 b_3=some r) :
  FnM Tryz.prog 190 [(dV (aD 0) 2 data_1),(vI a_2),(vI b_3),(.fn 126 [])] (([]:List Box)++gI 2 Run.enc data_1) (.tup []) (([]:List Box).map some++gT data_1 (gB 2 Run.enc r)):=by
 refine FnM.of_wHv ⟨Tryz.prog,53,[],[]⟩ rfl Tryz.func190 rfl rfl (lb_ rfl) (by kernel_rfl) ?_
 unfold bI at hF
 refine ai (aa (vI a_2) (aa (vI (w64 (a_2+1))) (aa (vI (w64 (a_2+1))) (ah ?_))))
 obtain ⟨o_13,hj_14,hF⟩:=bind_some hF
 obtain ⟨nq_51,hj_14⟩:=cB hj_14
 refine dJ (λ(s_10:(List Run)×Int)=>[]) (λ(s_10:(List Run)×Int)=>[((aD 0),gB 2 Run.enc s_10.1)]) (λ(k_5:Nat)=>(λ(s_10:(List Run)×Int)=>[(0,(dV (aD 0) 2 s_10.1)),(1,(vI a_2)),(2,(vI b_3)),(3,(.fn 126 [])),(8,(vI s_10.2))])) (λs=>bD b_3 a_2 s) o_13 nq_51 (data_1,(w64 (a_2+1))) hj_14 rfl (aI rfl) ?_ ?_
 ·rintro ⟨k_5,s_10⟩ hL_12
  dsimp only at hL_12
  cases k_5 with
  | zero=>cases hL_12
  | succ k_5 =>
   obtain ⟨c_,hc_11,hL_12⟩:=bind_some hL_12
   unfold bD at hc_11
   refine ak (ai (aa (vI s_10.2) (aa (vI b_3) (aa (vB (decide (s_10.2<b_3))) (ah ?_)))))
   rcases aj hc_11 with⟨hc_15,hc_11⟩|⟨hc_15,hc_11⟩
   ·refine aA rfl hc_15 (av (ak (aN (ai (aa (vI s_10.2) (aa (vI s_10.2) (ah ?_)))))))
    obtain ⟨o_24,hj_25,hc_11⟩:=bind_some hc_11
    obtain ⟨nq_50,hj_25⟩:=cB hj_25
    refine dJ (λ(s_21:(List Run)×Int)=>[(0,(dV (aD 0) 2 s_21.1)),(1,(vI a_2)),(2,(vI b_3)),(3,(.fn 126 [])),(8,(vI s_10.2))]) (λ(s_21:(List Run)×Int)=>[((aD 0),gB 2 Run.enc s_21.1)]) (λ(k_16:Nat)=>(λ(s_21:(List Run)×Int)=>[(0,(dV (aD 0) 2 s_21.1)),(1,(vI a_2)),(2,(vI b_3)),(3,(.fn 126 [])),(8,(vI s_10.2)),(9,(vI s_21.2))])) (λs=>bS a_2 s) o_24 nq_50 (s_10.1,s_10.2) hj_25 rfl (aI rfl) ?_ ?_
    ·rintro ⟨k_16,s_21⟩ hL_23
     dsimp only at hL_23
     cases k_16 with
     | zero=>cases hL_23
     | succ k_16 =>
      obtain ⟨c_,hc_22,hL_23⟩:=bind_some hL_23
      unfold bS at hc_22
      refine ak (ak ?_)
      obtain ⟨v_26,h_27,hc_22⟩:=bind_some hc_22
      refine aM [(0,(dV (aD 0) 2 s_21.1)),(1,(vI a_2)),(2,(vI b_3)),(3,(.fn 126 [])),(8,(vI s_10.2)),(9,(vI s_21.2)),(34,(vB v_26))] [((aD 0),gB 2 Run.enc s_21.1)] ?_ ?_
      ·refine aZ (aa (vI s_21.2) (aa (vI a_2) (aa (vB (decide (s_21.2>a_2))) ?_)))
       rcases aj h_27 with⟨hc_28,h_27⟩|⟨hc_28,h_27⟩
       ·refine aC rfl hc_28 wz (aG (.fn 126 []) wa rfl (aG (dV (aD 0) 2 s_21.1) wa rfl (aG (vI s_21.2) wa rfl ?_)))
        obtain ⟨_,hi_29,h_27⟩:=bind_some h_27
        refine lM lc rfl rfl (jO hi_29) (gL hi_29) wa ?_
        obtain ⟨e_30,hy_31,h_27⟩:=bind_some h_27
        refine lN 8 0 (.inr (by kernel_rfl)) (λ_ _ ag=>trivial) mX xu rfl rfl hy_31 (.d (.agg (Run.enc e_30))) rfl wa (aG (dV (aD 0) 2 s_21.1) wa rfl (aG (vI s_21.2) wa rfl (aG (vI (w64 (s_21.2-1))) wa rfl ?_)))
        obtain ⟨_,hi_32,h_27⟩:=bind_some h_27
        refine lM lc rfl rfl (jO hi_32) (gL hi_32) wa ?_
        obtain ⟨e_33,hy_34,h_27⟩:=bind_some h_27
        refine lN 13 0 (.inr (by kernel_rfl)) (λ_ _ ag=>⟨.inl ⟨rfl,rfl⟩,trivial⟩) mX xu rfl rfl hy_34 (.d (.agg (Run.enc e_33))) rfl wa ?_
        obtain ⟨r_35,hr_36,h_27⟩:=bind_some h_27
        refine aB (AP hr_36) rfl hb126 rfl rfl rfl rfl wa (aG (vB (decide (r_35<0))) wa rfl (aa (vB (decide (r_35<0))) (ah ?_)))
        obtain rfl:=ae h_27
        exact cu
       ·refine aC rfl hc_28 wz (af (af (af (af (af (af (af (af (af (af (af (af (aa (vB false) (ah ?_))))))))))))))
        obtain rfl:=ae h_27
        exact cu
      ·rintro ⟨⟩ _ sl_ H_ hp_ hq_
       refine aO _ hp_ hq_ ?_
       rcases aj hc_22 with⟨hc_37,hc_22⟩|⟨hc_37,hc_22⟩
       ·refine aA rfl hc_37 (av (ak (aN (aZ (aa (dV (aD 0) 2 s_21.1) (aa (vI s_21.2) (aa (dV (aD 0) 2 s_21.1) (aa (vI s_21.2) (aa (vI (w64 (s_21.2-1))) (aa (dV (aD 0) 2 s_21.1) (aa (vI s_21.2) (aa (vI (w64 (s_21.2-1))) ?_))))))))))))
        obtain ⟨_,hi_38,hc_22⟩:=bind_some hc_22
        refine lM lc rfl rfl (jO hi_38) (gL hi_38) wz ?_
        obtain ⟨e_39,hy_40,hc_22⟩:=bind_some hc_22
        refine lN 9 0 (.inr (by kernel_rfl)) (λ_ _ ag=>trivial) mX xu rfl rfl hy_40 (.d (.agg (Run.enc e_39))) rfl wz (aa (dV (aD 0) 2 s_21.1) (aa (vI s_21.2) ?_))
        obtain ⟨_,hi_41,hc_22⟩:=bind_some hc_22
        refine lM lc rfl rfl (jO hi_41) (gL hi_41) wz ?_
        obtain ⟨e_42,hy_43,hc_22⟩:=bind_some hc_22
        refine lN 13 0 (.inr (by kernel_rfl)) (λ_ _ ag=>⟨.inl ⟨rfl,rfl⟩,trivial⟩) mX xu rfl rfl hy_43 (.d (.agg (Run.enc e_42))) rfl wz ?_
        obtain ⟨_,hi_44,hc_22⟩:=bind_some hc_22
        refine lM lc rfl rfl (jO hi_44) (gL hi_44) wz ?_
        obtain ⟨e_45,hy_46,hc_22⟩:=bind_some hc_22
        refine wN 15 (.inr (by kernel_rfl)) (λ_ _ ag=>⟨.inr (.inr (by kernel_rfl)),⟨.inr (.inr (by kernel_rfl)),trivial⟩⟩) 0 mX rfl rfl hy_46 e_39 rfl wz (eO (v':=(dV (aD 0) 2 (s_21.1.set (0+(s_21.2).toNat) e_39))) 0 rfl (fu (by simp)) (eO (v':=(dV (aD 0) 2 (s_21.1.set (0+(s_21.2).toNat) e_39))) 37 rfl (fu (by simp)) (eO (v':=(dV (aD 0) 2 (s_21.1.set (0+(s_21.2).toNat) e_39))) 39 rfl (fu (by simp)) (eO (v':=(dV (aD 0) 2 (s_21.1.set (0+(s_21.2).toNat) e_39))) 42 rfl (fu (by simp)) (eO (v':=(dV (aD 0) 2 (s_21.1.set (0+(s_21.2).toNat) e_39))) 47 rfl (fu (by simp)) ?_)))))
        obtain ⟨_,hi_47,hc_22⟩:=bind_some hc_22
        refine lM lc rfl rfl (jO hi_47) (gL hi_47) wz ?_
        obtain ⟨e_48,hy_49,hc_22⟩:=bind_some hc_22
        refine wN 17 (.inr (by kernel_rfl)) (λ_ _ ag=>⟨.inr (.inr (by kernel_rfl)),⟨.inr (.inr (by kernel_rfl)),⟨.inr (.inr (by kernel_rfl)),trivial⟩⟩⟩) 0 mX rfl rfl hy_49 e_42 rfl wz (eO (v':=(dV (aD 0) 2 ((s_21.1.set (0+(s_21.2).toNat) e_39).set (0+((w64 (s_21.2-1))).toNat) e_42))) 0 rfl (fu (by simp)) (eO (v':=(dV (aD 0) 2 ((s_21.1.set (0+(s_21.2).toNat) e_39).set (0+((w64 (s_21.2-1))).toNat) e_42))) 37 rfl (fu (by simp)) (eO (v':=(dV (aD 0) 2 ((s_21.1.set (0+(s_21.2).toNat) e_39).set (0+((w64 (s_21.2-1))).toNat) e_42))) 39 rfl (fu (by simp)) (eO (v':=(dV (aD 0) 2 ((s_21.1.set (0+(s_21.2).toNat) e_39).set (0+((w64 (s_21.2-1))).toNat) e_42))) 42 rfl (fu (by simp)) (eO (v':=(dV (aD 0) 2 ((s_21.1.set (0+(s_21.2).toNat) e_39).set (0+((w64 (s_21.2-1))).toNat) e_42))) 47 rfl (fu (by simp)) (ah (au (aa (vI s_21.2) (aa (vI (w64 (s_21.2-1))) (aa (vI (w64 (s_21.2-1))) (ah ?_)))))))))))
        obtain rfl:=ae hc_22
        exact aS (k_16,(((s_21.1.set (0+(s_21.2).toNat) e_39).set (0+((w64 (s_21.2-1))).toNat) e_42),(w64 (s_21.2-1)))) hL_23 (ls_ _) rfl (aI rfl)
       ·refine ax rfl hc_37 (aV ?_)
        obtain rfl:=ae hc_22
        obtain rfl:=ae hL_23
        exact aU ((s_21.1,s_21.2)) rfl rfl (aI rfl)
    ·rintro s_21 ho_ sl_ H_ hp_ hq_
     subst ho_
     refine aO _ hp_ hq_ (au (aa (vI s_10.2) (aa (vI (w64 (s_10.2+1))) (aa (vI (w64 (s_10.2+1))) (ah ?_)))))
     obtain rfl:=ae hc_11
     exact aS (k_5,(s_21.1,(w64 (s_10.2+1)))) hL_12 (ls_ _) rfl (aI rfl)
   ·refine ax rfl hc_15 (aV ?_)
    obtain rfl:=ae hc_11
    obtain rfl:=ae hL_12
    exact aU ((s_10.1,s_10.2)) rfl rfl (aI rfl)
 ·rintro s_10 ho_ sl_ H_ hp_ hq_
  subst ho_
  show vv _ _ _ _ _ _ _ _
  obtain rfl:=ae hF
  exact Cb (H0:=([((aD 0),gB 2 Run.enc s_10.1)]:Hp)) (sl':=envS []) hq_ (yZ (bs:=([]:List Box)) (os:=([]:List Box)) (xs:=data_1) (o:=gB 2 Run.enc s_10.1) (.inl rfl) [] trivial rfl rfl rfl rfl rfl (by kernel_rfl) rH rfl)
theorem kX {data_1:(List Run)} {a_2:Int} {b_3:Int} {limit_4:Int} {r:(List Run)} (hF:cz data_1 a_2 b_3 limit_4=some r) :
  FnM Tryz.prog 166 [(dV (aD 0) 2 data_1),(vI a_2),(vI b_3),(vI limit_4),(.fn 126 [])] (([]:List Box)++gI 2 Run.enc data_1) (.tup []) (([]:List Box).map some++gT data_1 (gB 2 Run.enc r)):=by
 refine FnM.of_wHv ⟨Tryz.prog,148,[],[]⟩ rfl Tryz.func166 rfl rfl (lb_ rfl) (by kernel_rfl) ?_
 unfold cz at hF
 refine ai (aa (vB true) (ah (ai (aa (vB true) (ah ?_)))))
 obtain ⟨o_14,hj_15,hF⟩:=bind_some hF
 obtain ⟨nq_21,hj_15⟩:=cB hj_15
 refine dJ (λ(s_11:Unit)=>[]) (λ(s_11:Unit)=>[((aD 0),gB 2 Run.enc data_1)]) (λ(k_6:Nat)=>(λ(s_11:Unit)=>[(0,(dV (aD 0) 2 data_1)),(1,(vI a_2)),(2,(vI b_3)),(3,(vI limit_4)),(4,(.fn 126 [])),(10,(vB true)),(11,(vB true))])) (λs=>bR b_3 a_2 data_1 limit_4 s) o_14 nq_21 () hj_15 rfl (aI rfl) ?_ ?_
 ·rintro ⟨k_6,s_11⟩ hL_13
  dsimp only at hL_13
  cases k_6 with
  | zero=>cases hL_13
  | succ k_6 =>
   obtain ⟨c_,hc_12,hL_13⟩:=bind_some hL_13
   unfold bR at hc_12
   refine aN (ai (aa (vI b_3) (aa (vI a_2) (aa (vI (w64 (b_3-a_2))) (aa (vI (w64 (b_3-a_2))) (ah (ak (ai (aa (vI (w64 (b_3-a_2))) (aa (vB (decide ((w64 (b_3-a_2))<=12))) (ah ?_)))))))))))
   rcases aj hc_12 with⟨hc_16,hc_12⟩|⟨hc_16,hc_12⟩
   ·refine aA rfl hc_16 (ai (aa (dV (aD 0) 2 data_1) (aa (vI a_2) (aa (vI b_3) (aa (.fn 126 []) ?_)))))
    obtain ⟨r_17,hr_18,hc_12⟩:=bind_some hc_12
    obtain ⟨_,hs_19,hc_12⟩:=bind_some hc_12
    replace hs_19:=pX hs_19
    refine pq 0 [] 0 0 il ft (jF hr_18) rfl hb190 rfl rfl rfl (by kernel_rfl) rfl (.inr (.inl rfl)) rfl (by kernel_rfl) (by kernel_rfl) (by kernel_rfl) (by kernel_rfl) rfl (by decide) (by kernel_rfl) rH (Bp hs_19) wz ([((aD 0),gB 2 Run.enc r_17)]:Hp) (by kernel_rfl) (eO (v':=(dV (aD 0) 2 r_17)) 0 rfl (fu hs_19.symm) (eO (v':=(dV (aD 0) 2 r_17)) 26 rfl (fu hs_19.symm) (ah ?_)))
    obtain rfl:=ae hc_12
    obtain rfl:=ae hL_13
    obtain rfl:=ae hF
    exact ay (yZ (bs:=([]:List Box)) (os:=([]:List Box)) (xs:=data_1) (o:=gB 2 Run.enc r_17) (.inr rfl) [] trivial rfl rfl rfl rfl rfl (by kernel_rfl) rH rfl)
   ·refine ax rfl hc_16 (av (ak (ai (aa (vI limit_4) (aa (vB (limit_4==0)) (ah ?_))))))
    rcases aj hc_12 with⟨hc_20,hc_12⟩|⟨hc_20,hc_12⟩
    ·refine aA rfl hc_20 (ai (aa (dV (aD 0) 2 data_1) (aa (vI a_2) (aa (vI b_3) (aa (.fn 126 []) ?_)))))
     cases hc_12
    ·refine ax rfl hc_20 (av (ak (ai (aa (vB true) (aa (vB false) (ah (ax rfl rfl (av (ai (aa (dV (aD 0) 2 data_1) (aa (vI a_2) (aa (vI b_3) (aa (.fn 126 []) ?_)))))))))))))
     cases hc_12
 ·rintro s_11 ho_ sl_ H_ hp_ hq_
  subst ho_
  show vv _ _ _ _ _ _ _ _
  obtain rfl:=ae hF
  exact Cb (H0:=([((aD 0),gB 2 Run.enc data_1)]:Hp)) (sl':=envS []) hq_ (yZ (bs:=([]:List Box)) (os:=([]:List Box)) (xs:=data_1) (o:=gB 2 Run.enc data_1) (.inl rfl) [] trivial rfl rfl rfl rfl rfl (by kernel_rfl) rH rfl)
theorem jL {x_1:(List Run)} {r:(List Run)} (hF:bL x_1=some r) :
  FnM Tryz.prog 125 [(dV (aD 0) 2 x_1),(.fn 126 [])] (([]:List Box)++gI 2 Run.enc x_1) (.tup []) (([]:List Box).map some++gT x_1 (gB 2 Run.enc r)):=by
 refine FnM.of_wHv ⟨Tryz.prog,14,[],[]⟩ rfl Tryz.func125 rfl rfl (lb_ rfl) (by kernel_rfl) ?_
 unfold bL at hF
 refine ai (aa (dV (aD 0) 2 x_1) (Ay yu rfl wz (aa (vI (x_1.length:Int)) (ah (au (aa (dV (aD 0) 2 x_1) (aa (vI (x_1.length:Int)) (aa (vI (x_1.length:Int)) (qd un3 EU rfl wz ?_)))))))))
 obtain ⟨r_3,hr_4,hF⟩:=bind_some hF
 refine aB (Ah hr_4) rfl hb124 rfl rfl rfl rfl wz (aa (.fn 126 []) ?_)
 obtain ⟨r_5,hr_6,hF⟩:=bind_some hF
 obtain ⟨_,hs_7,hF⟩:=bind_some hF
 replace hs_7:=pX hs_7
 refine pq 0 [] 0 0 il ft (kX hr_6) rfl hb166 rfl rfl rfl (by kernel_rfl) rfl (.inr (.inl rfl)) rfl (by kernel_rfl) (by kernel_rfl) (by kernel_rfl) (by kernel_rfl) rfl (by decide) (by kernel_rfl) rH (Bp hs_7) wz ([((aD 0),gB 2 Run.enc r_5)]:Hp) (by kernel_rfl) (eO (v':=(dV (aD 0) 2 r_5)) 0 rfl (fu hs_7.symm) (eO (v':=(dV (aD 0) 2 r_5)) 5 rfl (fu hs_7.symm) (eO (v':=(dV (aD 0) 2 r_5)) 7 rfl (fu hs_7.symm) (ah ?_))))
 show vv _ _ _ _ _ _ _ _
 obtain rfl:=ae hF
 exact yZ (bs:=([]:List Box)) (os:=([]:List Box)) (xs:=x_1) (o:=gB 2 Run.enc r_5) (.inl rfl) [] trivial rfl rfl rfl rfl rfl (by kernel_rfl) rH rfl
theorem wS {l_1:(List Rect)} {y_2:Int} {r:(List Run)} (hF:mZ l_1 y_2=some r) :
  FnM Tryz.prog 90 [(vL Rect.enc l_1),(vI y_2)] [] (vL Run.enc r) []:=by
 refine FnM.of_wH ⟨Tryz.prog,84,[],[]⟩ rfl Tryz.func90 rfl rfl (lb_ rfl) (by kernel_rfl) ?_
 unfold mZ at hF
 refine ai (aa .nil (ah (ai (aa .nil (ah (ak (ai (aa (vL Rect.enc l_1) (bG AC rfl wz (aa (vI 0) (ah (oJ (λn_9 => ?_)))))))))))))
 obtain ⟨o_14,hj_15,hF⟩:=bind_some hF
 obtain ⟨hn_7,hj_15⟩:=bg hj_15
 refine jc (σ:=(List Run)) (N:=Nm) (λp=>(λ(s_8:List Run) (n_11:Nm)=>([(5,(gV n_11 2 s_8))]:SL_)) p.1 p.2) (λp=>(λ(s_8:List Run) (n_11:Nm)=>([(n_11,gB 2 Run.enc s_8)]:Hp)) p.1 p.2) (λ(k_3:Nat)=>(λp=>(λ(s_8:List Run) (n_11:Nm)=>([(1,(vI y_2)),(5,(gV n_11 2 s_8)),(12,(vL Rect.enc l_1)),(13,(vI (l_1.length:Int))),(14,(vI (k_3:Int)))]:SL_)) p.1 p.2)) (λk x s=>nR y_2 k x s) o_14 l_1 (([]:List Run),n_9) hj_15 rfl (aI rfl) ?_ ?_
 ·rintro ⟨k_3,l_4,s_8,n_11⟩ ⟨hL_13,hD_6⟩
  dsimp only at hL_13 hD_6
  cases l_4 with
  | nil =>
   obtain rfl:=ae hL_13
   refine ai (aa (vB (decide ((k_3:Int)<(l_1.length:Int)))) (ah ?_))
   refine ak (ax rfl (drop_nil hD_6) (aV ?_))
   exact aU (s_8,n_11) rfl rfl (aI rfl)
  | cons x_5 l_4 =>
   obtain ⟨c_,hc_12,hL_13⟩:=bind_some hL_13
   refine ai (aa (vB (decide ((k_3:Int)<(l_1.length:Int)))) (ah ?_))
   refine ak (aA rfl (bz hD_6) (av ?_))
   unfold nR at hc_12
   refine ak (aN (ai (dB E5 rfl rfl (bK hD_6) rfl wz (bA wR Iz rfl (.d (.agg (Rect.enc x_5))) rfl wz (dK 0 (.inl rfl) z78 rfl wz (λn_16=>gP 0 il ft 1 wR rfl rfl (Rect.v x_5) rfl wz (ah (ak ?_))))))))
   obtain ⟨v_17,h_18,hc_12⟩:=bind_some hc_12
   refine aM [(1,(vI y_2)),(5,(gV n_11 2 s_8)),(7,(.ref n_16 0 0)),(12,(vL Rect.enc l_1)),(13,(vI (l_1.length:Int))),(14,(vI (k_3:Int))),(30,(vB v_17))] [(n_11,gB 2 Run.enc s_8),(n_16,some (.cells 4 (Rect.v x_5)))] ?_ ?_
   ·refine au (aJ wY rfl 1 rfl wz (aH 0 1 il ft sz3 ag3 rfl rfl (vI x_5.Y) rfl wz (aa (vI y_2) (aa (vB (decide (x_5.Y<=y_2))) ?_))))
    rcases aj h_18 with⟨hc_19,h_18⟩|⟨hc_19,h_18⟩
    ·refine aC rfl hc_19 wz (aG (vI y_2) wa rfl (aJ wY rfl 1 rfl wa (aH 0 1 il ft sz3 ag3 rfl rfl (vI x_5.Y) rfl wa (aJ Dv rfl 3 rfl wa (aH 0 1 il ft sz3 ag3 rfl rfl (vI x_5.H) rfl wa (aG (vI (w64 (x_5.Y+x_5.H))) wa rfl (aG (vB (decide (y_2<(w64 (x_5.Y+x_5.H))))) wa rfl (aa (vB (decide (y_2<(w64 (x_5.Y+x_5.H))))) (ah ?_)))))))))
     obtain rfl:=ae h_18
     exact cu
    ·refine aC rfl hc_19 wz (af (af (af (af (af (af (af (aa (vB false) (ah ?_)))))))))
     obtain rfl:=ae h_18
     exact cu
   ·rintro ⟨⟩ _ sl_ H_ hp_ hq_
    refine aO _ hp_ hq_ ?_
    obtain ⟨v_20,h_21,hc_12⟩:=bind_some hc_12
    refine kv (β:=Nm) (λ(n_22:Nm)=>([(1,(vI y_2)),(5,(gV n_22 2 v_20)),(12,(vL Rect.enc l_1)),(13,(vI (l_1.length:Int))),(14,(vI (k_3:Int)))]:SL_)) (λ(n_22:Nm)=>([(n_22,gB 2 Run.enc v_20),(n_16,some (.cells 4 (Rect.v x_5)))]:Hp)) (λ_=>True) ?_ ?_
    ·rcases aj h_21 with⟨hc_23,h_21⟩|⟨hc_23,h_21⟩
     ·refine aA rfl hc_23 (au (aa (gV n_11 2 s_8) (aJ Ab rfl 0 rfl wz (aH 0 1 il ft sz3 ag3 rfl rfl (vI x_5.X) rfl wz (aJ Ab rfl 0 rfl wz (aH 0 1 il ft sz3 ag3 rfl rfl (vI x_5.X) rfl wz (aJ Gt rfl 2 rfl wz (aH 0 1 il ft sz3 ag3 rfl rfl (vI x_5.W) rfl wz (aa (vI (w64 (x_5.X+x_5.W))) (aG (.d (.agg (Run.enc (⟨x_5.X,(w64 (x_5.X+x_5.W))⟩:Run)))) wz (by kernel_rfl) (iK (([(⟨x_5.X,(w64 (x_5.X+x_5.W))⟩:Run)]:List Run).map Run.enc) lc K3 rfl rfl rfl rfl rfl wz ?_)))))))))))
      obtain ⟨a_24,hz_25,h_21⟩:=bind_some h_21
      refine mQ 0 il ft (i:=0) Be Be mX Jk rfl (by decide) KU (by decide) (λ_=>rfl) rfl rfl rfl hz_25 wz (λn_26=>aa (gV n_26 2 a_24) (ah ?_))
      obtain rfl:=ae h_21
      exact aU n_26 trivial rfl (aI rfl)
     ·refine ax rfl hc_23 (av ?_)
      obtain rfl:=ae h_21
      exact aU n_11 trivial rfl (aI rfl)
    ·rintro n_22 _ sl_ H_ hp_ hq_
     refine aO _ hp_ hq_ (au (fq (bH hD_6 hn_7) wz rfl (aa (vI ((k_3+1:Nat):Int)) (ah ?_))))
     obtain rfl:=ae hc_12
     exact aS (k_3+1,l_4,v_20,n_22) ⟨hL_13,aR hD_6⟩ (ls_ _) rfl (aI rfl)
 ·rintro ⟨s_8,n_11⟩ ho_ sl_ H_ hp_ hq_
  subst ho_
  refine aO _ hp_ hq_ (ai (aa (gV n_11 2 s_8) ?_))
  obtain ⟨r_27,hr_28,hF⟩:=bind_some hF
  obtain ⟨_,hs_29,hF⟩:=bind_some hF
  replace hs_29:=pX hs_29
  refine pq 0 [] 0 0 il ft (jL hr_28) rfl hb125 rfl rfl rfl (by kernel_rfl) rfl (.inl rfl) rfl (by kernel_rfl) (by kernel_rfl) (by kernel_rfl) (by kernel_rfl) rfl (by decide) (by kernel_rfl) rH (Bp hs_29) wz ([(n_11,gB 2 Run.enc r_27)]:Hp) (by kernel_rfl) (eO (v':=(gV n_11 2 r_27)) 43 rfl (j6 hs_29.symm) (eO (v':=(gV n_11 2 r_27)) 5 rfl (j6 hs_29.symm) (ah (ai (aa .nil (ah (ak (ai (aa (gV n_11 2 r_27) (JD yu rfl wz (aa (vI 0) (ah (gG 0 rfl (eT 5 0 rfl rfl (eT 43 0 rfl rfl (eT 45 0 rfl rfl (oJ (λn_36 => ?_))))))))))))))))))
  obtain ⟨o_41,hj_42,hF⟩:=bind_some hF
  obtain ⟨hn_34,hj_42⟩:=bg hj_42
  refine jc (σ:=(List Run)) (N:=Nm) (λp=>(λ(s_35:List Run) (n_38:Nm)=>([(8,(gV n_38 2 s_35))]:SL_)) p.1 p.2) (λp=>(λ(s_35:List Run) (n_38:Nm)=>([(n_11,gF 2 Run.enc r_27),(n_38,gB 2 Run.enc s_35)]:Hp)) p.1 p.2) (λ(k_30:Nat)=>(λp=>(λ(s_35:List Run) (n_38:Nm)=>([(8,(gV n_38 2 s_35)),(45,(vL Run.enc r_27)),(46,(vI (r_27.length:Int))),(47,(vI (k_30:Int)))]:SL_)) p.1 p.2)) (λk x s=>nK k x s) o_41 r_27 (([]:List Run),n_36) hj_42 rfl (aI rfl) ?_ ?_
  ·rintro ⟨k_30,l_31,s_35,n_38⟩ ⟨hL_40,hD_33⟩
   dsimp only at hL_40 hD_33
   cases l_31 with
   | nil =>
    obtain rfl:=ae hL_40
    refine ai (aa (vB (decide ((k_30:Int)<(r_27.length:Int)))) (ah ?_))
    refine ak (ax rfl (drop_nil hD_33) (aV ?_))
    exact aU (s_35,n_38) rfl rfl (aI rfl)
   | cons x_32 l_31 =>
    obtain ⟨c_,hc_39,hL_40⟩:=bind_some hL_40
    refine ai (aa (vB (decide ((k_30:Int)<(r_27.length:Int)))) (ah ?_))
    refine ak (aA rfl (bz hD_33) (av ?_))
    unfold nK at hc_39
    refine ak (aN (ai (dB lc rfl rfl (bK hD_33) rfl wz (bA mX xu rfl (.d (.agg (Run.enc x_32))) rfl wz (dK 0 (.inl rfl) Jk rfl wz (λn_43=>gP 0 il ft 2 mX rfl rfl [(vI x_32.f_from),(vI x_32.f_to)] rfl wz (ah (ai (aa (gV n_38 2 s_35) (JD yu rfl wz (aa (vI (w64 ((s_35.length:Int)-1))) (aa (vI (w64 ((s_35.length:Int)-1))) (ah (ak ?_))))))))))))))
    obtain ⟨v_44,h_45,hc_39⟩:=bind_some hc_39
    refine aM [(8,(gV n_38 2 s_35)),(10,(.ref n_43 0 0)),(11,(vI (w64 ((s_35.length:Int)-1)))),(45,(vL Run.enc r_27)),(46,(vI (r_27.length:Int))),(47,(vI (k_30:Int))),(65,(vB v_44))] [(n_11,gF 2 Run.enc r_27),(n_38,gB 2 Run.enc s_35),(n_43,some (.cells 2 [(vI x_32.f_from),(vI x_32.f_to)]))] ?_ ?_
    ·refine aZ (aa (vI (w64 ((s_35.length:Int)-1))) (aa (vB (decide ((w64 ((s_35.length:Int)-1))>=0))) ?_))
     rcases aj h_45 with⟨hc_46,h_45⟩|⟨hc_46,h_45⟩
     ·refine aC rfl hc_46 wz (aJ kw rfl 0 rfl wa (aH 4 2 (.inr (by kernel_rfl)) (λ_ _ ag=>trivial) sz3 ag3 rfl rfl (vI x_32.f_from) rfl wa (aG (gV n_38 2 s_35) wa rfl (aG (vI (w64 ((s_35.length:Int)-1))) wa rfl ?_))))
      obtain ⟨_,hi_47,h_45⟩:=bind_some h_45
      refine xw lc rfl rfl (jO hi_47) (gL hi_47) wa (aJ qK rfl 1 rfl wa ?_)
      obtain ⟨e_48,hy_49,h_45⟩:=bind_some h_45
      refine lN 9 1 (.inr (by kernel_rfl)) (λ_ _ ag=>⟨.inl ⟨rfl,rfl⟩,trivial⟩) sz3 ag3 rfl rfl hy_49 (vI e_48.f_to) rfl wa (aG (vB (decide (x_32.f_from<=e_48.f_to))) wa rfl (aa (vB (decide (x_32.f_from<=e_48.f_to))) (ah ?_)))
      obtain rfl:=ae h_45
      exact cu
     ·refine aC rfl hc_46 wz (af (af (af (af (af (af (af (af (aa (vB false) (ah ?_))))))))))
      obtain rfl:=ae h_45
      exact cu
    ·rintro ⟨⟩ _ sl_ H_ hp_ hq_
     refine aO _ hp_ hq_ ?_
     obtain ⟨v_50,h_51,hc_39⟩:=bind_some hc_39
     refine kv (β:=Nm) (λ(n_52:Nm)=>([(8,(gV n_52 2 v_50)),(45,(vL Run.enc r_27)),(46,(vI (r_27.length:Int))),(47,(vI (k_30:Int)))]:SL_)) (λ(n_52:Nm)=>([(n_11,gF 2 Run.enc r_27),(n_52,gB 2 Run.enc v_50),(n_43,some (.cells 2 [(vI x_32.f_from),(vI x_32.f_to)]))]:Hp)) (λ_=>True) ?_ ?_
     ·rcases aj h_51 with⟨hc_53,h_51⟩|⟨hc_53,h_51⟩
      ·refine aA rfl hc_53 (aZ (aa (gV n_38 2 s_35) (aa (vI (w64 ((s_35.length:Int)-1))) (aa (gV n_38 2 s_35) (aa (vI (w64 ((s_35.length:Int)-1))) ?_)))))
       obtain ⟨_,hi_54,h_51⟩:=bind_some h_51
       refine xw lc rfl rfl (jO hi_54) (gL hi_54) wz (aJ qK rfl 1 rfl wz ?_)
       obtain ⟨e_55,hy_56,h_51⟩:=bind_some h_51
       refine lN 6 1 (.inr (by kernel_rfl)) (λ_ _ ag=>trivial) sz3 ag3 rfl rfl hy_56 (vI e_55.f_to) rfl wz (aJ qK rfl 1 rfl wz (aH 8 2 (.inr (by kernel_rfl)) (λ_ _ ag=>⟨.inl ⟨rfl,rfl⟩,trivial⟩) sz3 ag3 rfl rfl (vI x_32.f_to) rfl wz (tq (vI (tT e_55.f_to x_32.f_to)) rfl (.inr rfl) wz ?_)))
       obtain ⟨_,hi_57,h_51⟩:=bind_some h_51
       refine xw lc rfl rfl (jO hi_57) (gL hi_57) wz (aJ qK rfl 1 rfl wz ?_)
       obtain ⟨e_58,hy_59,h_51⟩:=bind_some h_51
       refine wN 12 (.inr (by kernel_rfl)) (λ_ _ ag=>⟨.inr (.inr (by kernel_rfl)),⟨.inr (.inr (by kernel_rfl)),trivial⟩⟩) 1 sz3 rfl rfl hy_59 (⟨e_58.f_from,(tT e_55.f_to x_32.f_to)⟩:Run) rfl wz (eO (v':=(gV n_38 2 (s_35.set (0+((w64 ((s_35.length:Int)-1))).toNat) (⟨e_58.f_from,(tT e_55.f_to x_32.f_to)⟩:Run)))) 8 rfl (j6 (by simp)) (eO (v':=(gV n_38 2 (s_35.set (0+((w64 ((s_35.length:Int)-1))).toNat) (⟨e_58.f_from,(tT e_55.f_to x_32.f_to)⟩:Run)))) 66 rfl (j6 (by simp)) (eO (v':=(gV n_38 2 (s_35.set (0+((w64 ((s_35.length:Int)-1))).toNat) (⟨e_58.f_from,(tT e_55.f_to x_32.f_to)⟩:Run)))) 68 rfl (j6 (by simp)) (ah ?_))))
       obtain rfl:=ae h_51
       exact aU n_38 trivial rfl (aI rfl)
      ·refine ax rfl hc_53 (au (aa (gV n_38 2 s_35) (aH 0 2 il ft mX xu rfl rfl (.d (.agg (Run.enc x_32))) rfl wz (iK (([x_32]:List Run).map Run.enc) lc K3 rfl rfl rfl rfl rfl wz ?_))))
       obtain ⟨a_60,hz_61,h_51⟩:=bind_some h_51
       refine mQ 0 il ft (i:=1) Be Be mX Jk rfl (by decide) KU (by decide) (λ_=>rfl) rfl rfl rfl hz_61 wz (λn_62=>aa (gV n_62 2 a_60) (ah ?_))
       obtain rfl:=ae h_51
       exact aU n_62 trivial rfl (aI rfl)
     ·rintro n_52 _ sl_ H_ hp_ hq_
      refine aO _ hp_ hq_ (au (fq (bH hD_33 hn_34) wz rfl (aa (vI ((k_30+1:Nat):Int)) (ah ?_))))
      obtain rfl:=ae hc_39
      exact aS (k_30+1,l_31,v_50,n_52) ⟨hL_40,aR hD_33⟩ (ls_ _) rfl (aI rfl)
  ·rintro ⟨s_35,n_38⟩ ho_ sl_ H_ hp_ hq_
   subst ho_
   refine aO _ hp_ hq_ (ai (aa (gV n_38 2 s_35) (aa (gV n_38 2 s_35) (ah (gG 1 rfl (eT 4 1 rfl rfl (eT 8 1 rfl rfl (eT 83 1 rfl rfl ?_))))))))
   obtain rfl:=ae hF
   exact ay (aK [(vL Run.enc s_35)] ⟨rfl,trivial⟩)
theorem Di {l_1:(List Run)} {m_2:(List Run)} {r:(List Run)} (hF:pR l_1 m_2=some r) :
  FnM Tryz.prog 89 [(vL Run.enc l_1),(vL Run.enc m_2)] [] (vL Run.enc r) []:=by
 refine FnM.of_wH ⟨Tryz.prog,88,[],[]⟩ rfl Tryz.func89 rfl rfl (lb_ rfl) (by kernel_rfl) ?_
 unfold pR at hF
 refine ai (aa .nil (ah (ai (aa .nil (ah (ai (aa (vI 0) (ah (ak (ai (aa (vL Run.enc l_1) (bG yu rfl wz (aa (vI 0) (ah (oJ (λn_9 => ?_))))))))))))))))
 obtain ⟨o_14,hj_15,hF⟩:=bind_some hF
 obtain ⟨hn_7,hj_15⟩:=bg hj_15
 refine jc (σ:=(List Run)×Int) (N:=Nm) (λp=>(λ(s_8:(List Run)×Int) (n_11:Nm)=>([(5,(gV n_11 2 s_8.1))]:SL_)) p.1 p.2) (λp=>(λ(s_8:(List Run)×Int) (n_11:Nm)=>([(n_11,gB 2 Run.enc s_8.1)]:Hp)) p.1 p.2) (λ(k_3:Nat)=>(λp=>(λ(s_8:(List Run)×Int) (n_11:Nm)=>([(1,(vL Run.enc m_2)),(5,(gV n_11 2 s_8.1)),(6,(vI s_8.2)),(10,(vL Run.enc l_1)),(11,(vI (l_1.length:Int))),(12,(vI (k_3:Int)))]:SL_)) p.1 p.2)) (λk x s=>lg m_2 k x s) o_14 l_1 ((([]:List Run),0),n_9) hj_15 rfl (aI rfl) ?_ ?_
 ·rintro ⟨k_3,l_4,s_8,n_11⟩ ⟨hL_13,hD_6⟩
  dsimp only at hL_13 hD_6
  cases l_4 with
  | nil =>
   obtain rfl:=ae hL_13
   refine ai (aa (vB (decide ((k_3:Int)<(l_1.length:Int)))) (ah ?_))
   refine ak (ax rfl (drop_nil hD_6) (aV ?_))
   exact aU (s_8,n_11) rfl rfl (aI rfl)
  | cons x_5 l_4 =>
   obtain ⟨c_,hc_12,hL_13⟩:=bind_some hL_13
   refine ai (aa (vB (decide ((k_3:Int)<(l_1.length:Int)))) (ah ?_))
   refine ak (aA rfl (bz hD_6) (av ?_))
   unfold lg at hc_12
   refine ak (aN (ai (dB lc rfl rfl (bK hD_6) rfl wz (bA mX xu rfl (.d (.agg (Run.enc x_5))) rfl wz (dK 0 (.inl rfl) Jk rfl wz (λn_16=>gP 0 il ft 1 mX rfl rfl [(vI x_5.f_from),(vI x_5.f_to)] rfl wz (ah (ak ?_))))))))
   obtain ⟨o_25,hj_26,hc_12⟩:=bind_some hc_12
   obtain ⟨nq_72,hj_26⟩:=cB hj_26
   refine dJ (λ(s_22:Int)=>[(1,(vL Run.enc m_2)),(5,(gV n_11 2 s_8.1)),(6,(vI s_22)),(8,(.ref n_16 0 0)),(10,(vL Run.enc l_1)),(11,(vI (l_1.length:Int))),(12,(vI (k_3:Int)))]) (λ(s_22:Int)=>[(n_11,gB 2 Run.enc s_8.1),(n_16,some (.cells 2 [(vI x_5.f_from),(vI x_5.f_to)]))]) (λ(k_17:Nat)=>(λ(s_22:Int)=>[(1,(vL Run.enc m_2)),(5,(gV n_11 2 s_8.1)),(6,(vI s_22)),(8,(.ref n_16 0 0)),(10,(vL Run.enc l_1)),(11,(vI (l_1.length:Int))),(12,(vI (k_3:Int)))])) (λs=>nX m_2 x_5 s) o_25 nq_72 s_8.2 hj_26 rfl (aI rfl) ?_ ?_
   ·rintro ⟨k_17,s_22⟩ hL_24
    dsimp only at hL_24
    cases k_17 with
    | zero=>cases hL_24
    | succ k_17 =>
     obtain ⟨c_,hc_23,hL_24⟩:=bind_some hL_24
     unfold nX at hc_23
     refine ak (ak ?_)
     obtain ⟨v_27,h_28,hc_23⟩:=bind_some hc_23
     refine aM [(1,(vL Run.enc m_2)),(5,(gV n_11 2 s_8.1)),(6,(vI s_22)),(8,(.ref n_16 0 0)),(10,(vL Run.enc l_1)),(11,(vI (l_1.length:Int))),(12,(vI (k_3:Int))),(29,(vB v_27))] [(n_11,gB 2 Run.enc s_8.1),(n_16,some (.cells 2 [(vI x_5.f_from),(vI x_5.f_to)]))] ?_ ?_
     ·refine aZ (aa (vI s_22) (aa (vL Run.enc m_2) (bG yu rfl wz (aa (vB (decide (s_22<(m_2.length:Int)))) ?_))))
      rcases aj h_28 with⟨hc_29,h_28⟩|⟨hc_29,h_28⟩
      ·refine aC rfl hc_29 wz (aG (vL Run.enc m_2) wa rfl (aG (vI s_22) wa rfl ?_))
       obtain ⟨y_30,hy_31,h_28⟩:=bind_some h_28
       refine dB lc rfl rfl hy_31 rfl wa (lK qK rfl [.int .i64 y_30.f_to] rfl rfl wa (bA sz3 ag3 rfl (vI y_30.f_to) rfl wa (aJ kw rfl 0 rfl wa (aH 11 1 (.inr (by kernel_rfl)) (λ_ _ ag=>trivial) sz3 ag3 rfl rfl (vI x_5.f_from) rfl wa (aG (vB (decide (y_30.f_to<=x_5.f_from))) wa rfl (aa (vB (decide (y_30.f_to<=x_5.f_from))) (ah ?_)))))))
       obtain rfl:=ae h_28
       exact cu
      ·refine aC rfl hc_29 wz (af (af (af (af (af (af (af (af (aa (vB false) (ah ?_))))))))))
       obtain rfl:=ae h_28
       exact cu
     ·rintro ⟨⟩ _ sl_ H_ hp_ hq_
      refine aO _ hp_ hq_ ?_
      rcases aj hc_23 with⟨hc_32,hc_23⟩|⟨hc_32,hc_23⟩
      ·refine aA rfl hc_32 (av (aN (au (aa (vI s_22) (aa (vI (w64 (s_22+1))) (aa (vI (w64 (s_22+1))) (ah ?_)))))))
       obtain rfl:=ae hc_23
       exact aS (k_17,(w64 (s_22+1))) hL_24 (ls_ _) rfl (aI rfl)
      ·refine ax rfl hc_32 (aV ?_)
       obtain rfl:=ae hc_23
       obtain rfl:=ae hL_24
       exact aU (s_22) rfl rfl (aI rfl)
   ·rintro s_22 ho_ sl_ H_ hp_ hq_
    subst ho_
    refine aO _ hp_ hq_ (ak (ai (aa (vI s_22) (aa (vI s_22) (ah ?_)))))
    obtain ⟨o_43,hj_44,hc_12⟩:=bind_some hc_12
    obtain ⟨nq_71,hj_44⟩:=cB hj_44
    refine HZ (σ:=(List Run)×Int×Int) (N:=Nm) (λp=>(λ(s_38:(List Run)×Int×Int) (n_40:Nm)=>([(1,(vL Run.enc m_2)),(5,(gV n_40 2 s_38.1)),(6,(vI s_22)),(8,(.ref n_16 0 0)),(10,(vL Run.enc l_1)),(11,(vI (l_1.length:Int))),(12,(vI (k_3:Int)))]:SL_)) p.1 p.2) (λp=>(λ(s_38:(List Run)×Int×Int) (n_40:Nm)=>([(n_40,gB 2 Run.enc s_38.1),(n_16,some (.cells 2 [(vI s_38.2.2),(vI x_5.f_to)]))]:Hp)) p.1 p.2) (λ(k_33:Nat)=>(λp=>(λ(s_38:(List Run)×Int×Int) (n_40:Nm)=>([(1,(vL Run.enc m_2)),(5,(gV n_40 2 s_38.1)),(6,(vI s_22)),(8,(.ref n_16 0 0)),(9,(vI s_38.2.1)),(10,(vL Run.enc l_1)),(11,(vI (l_1.length:Int))),(12,(vI (k_3:Int)))]:SL_)) p.1 p.2)) (λs=>nH m_2 x_5 s) o_43 nq_71 ((s_8.1,s_22,x_5.f_from),n_11) hj_44 rfl (aI rfl) ?_ ?_
    ·rintro ⟨k_33,s_38,n_40⟩ hL_42
     dsimp only at hL_42
     cases k_33 with
     | zero=>cases hL_42
     | succ k_33 =>
      obtain ⟨c_,hc_41,hL_42⟩:=bind_some hL_42
      unfold nH at hc_41
      refine ak (ak ?_)
      obtain ⟨v_45,h_46,hc_41⟩:=bind_some hc_41
      refine aM [(1,(vL Run.enc m_2)),(5,(gV n_40 2 s_38.1)),(6,(vI s_22)),(8,(.ref n_16 0 0)),(9,(vI s_38.2.1)),(10,(vL Run.enc l_1)),(11,(vI (l_1.length:Int))),(12,(vI (k_3:Int))),(46,(vB v_45))] [(n_40,gB 2 Run.enc s_38.1),(n_16,some (.cells 2 [(vI s_38.2.2),(vI x_5.f_to)]))] ?_ ?_
      ·refine aZ (aa (vI s_38.2.1) (aa (vL Run.enc m_2) (bG yu rfl wz (aa (vB (decide (s_38.2.1<(m_2.length:Int)))) ?_))))
       rcases aj h_46 with⟨hc_47,h_46⟩|⟨hc_47,h_46⟩
       ·refine aC rfl hc_47 wz (aG (vL Run.enc m_2) wa rfl (aG (vI s_38.2.1) wa rfl ?_))
        obtain ⟨y_48,hy_49,h_46⟩:=bind_some h_46
        refine dB lc rfl rfl hy_49 rfl wa (lK kw rfl [.int .i64 y_48.f_from,.int .i64 y_48.f_to] rfl rfl wa (bA sz3 ag3 rfl (vI y_48.f_from) rfl wa (aJ qK rfl 1 rfl wa (aH 11 1 (.inr (by kernel_rfl)) (λ_ _ ag=>trivial) sz3 ag3 rfl rfl (vI x_5.f_to) rfl wa (aG (vB (decide (y_48.f_from<x_5.f_to))) wa rfl (aa (vB (decide (y_48.f_from<x_5.f_to))) (ah ?_)))))))
        obtain rfl:=ae h_46
        exact cu
       ·refine aC rfl hc_47 wz (af (af (af (af (af (af (af (af (aa (vB false) (ah ?_))))))))))
        obtain rfl:=ae h_46
        exact cu
      ·rintro ⟨⟩ _ sl_ H_ hp_ hq_
       refine aO _ hp_ hq_ ?_
       rcases aj hc_41 with⟨hc_50,hc_41⟩|⟨hc_50,hc_41⟩
       ·refine aA rfl hc_50 (av (ak (aN (ak (ak (aZ (aa (vL Run.enc m_2) (aa (vI s_38.2.1) ?_))))))))
        obtain ⟨y_51,hy_52,hc_41⟩:=bind_some hc_41
        refine dB lc rfl rfl hy_52 rfl wz (lK kw rfl [.int .i64 y_51.f_from,.int .i64 y_51.f_to] rfl rfl wz (bA sz3 ag3 rfl (vI y_51.f_from) rfl wz (aJ kw rfl 0 rfl wz (aH 6 1 (.inr (by kernel_rfl)) (λ_ _ ag=>trivial) sz3 ag3 rfl rfl (vI s_38.2.2) rfl wz (aa (vB (decide (y_51.f_from>s_38.2.2))) (ah ?_))))))
        obtain ⟨v_53,h_54,hc_41⟩:=bind_some hc_41
        refine kv (β:=Nm) (λ(n_55:Nm)=>([(1,(vL Run.enc m_2)),(5,(gV n_55 2 v_53)),(6,(vI s_22)),(8,(.ref n_16 0 0)),(9,(vI s_38.2.1)),(10,(vL Run.enc l_1)),(11,(vI (l_1.length:Int))),(12,(vI (k_3:Int)))]:SL_)) (λ(n_55:Nm)=>([(n_55,gB 2 Run.enc v_53),(n_16,some (.cells 2 [(vI s_38.2.2),(vI x_5.f_to)]))]:Hp)) (λ_=>True) ?_ ?_
        ·rcases aj h_54 with⟨hc_56,h_54⟩|⟨hc_56,h_54⟩
         ·refine aA rfl hc_56 (aZ (aa (gV n_40 2 s_38.1) (aJ kw rfl 0 rfl wz (aH 2 1 (.inr (by kernel_rfl)) (λ_ _ ag=>trivial) sz3 ag3 rfl rfl (vI s_38.2.2) rfl wz (aa (vL Run.enc m_2) (aa (vI s_38.2.1) ?_))))))
          obtain ⟨y_57,hy_58,h_54⟩:=bind_some h_54
          refine dB lc rfl rfl hy_58 rfl wz (lK kw rfl [.int .i64 y_57.f_from,.int .i64 y_57.f_to] rfl rfl wz (bA sz3 ag3 rfl (vI y_57.f_from) rfl wz (aG (.d (.agg (Run.enc (⟨s_38.2.2,y_57.f_from⟩:Run)))) wz (by kernel_rfl) (iK (([(⟨s_38.2.2,y_57.f_from⟩:Run)]:List Run).map Run.enc) lc K3 rfl rfl rfl rfl rfl wz ?_))))
          obtain ⟨a_59,hz_60,h_54⟩:=bind_some h_54
          refine mQ 10 (.inr (by kernel_rfl)) (λ_ _ ag=>⟨.inr (.inr (by kernel_rfl)),trivial⟩) (i:=0) Be Be mX Jk rfl (by decide) KU (by decide) (λ_=>rfl) rfl rfl rfl hz_60 wz (λn_61=>aa (gV n_61 2 a_59) (ah ?_))
          obtain rfl:=ae h_54
          exact aU n_61 trivial rfl (aI rfl)
         ·refine ax rfl hc_56 (av ?_)
          obtain rfl:=ae h_54
          exact aU n_40 trivial rfl (aI rfl)
        ·rintro n_55 _ sl_ H_ hp_ hq_
         refine aO _ hp_ hq_ (aZ (aJ kw rfl 0 rfl wz (aH 1 1 (.inr (by kernel_rfl)) (λ_ _ ag=>trivial) sz3 ag3 rfl rfl (vI s_38.2.2) rfl wz (aa (vL Run.enc m_2) (aa (vI s_38.2.1) ?_)))))
         obtain ⟨y_62,hy_63,hc_41⟩:=bind_some hc_41
         refine dB lc rfl rfl hy_63 rfl wz (lK qK rfl [.int .i64 y_62.f_to] rfl rfl wz (bA sz3 ag3 rfl (vI y_62.f_to) rfl wz (tq (vI (tT s_38.2.2 y_62.f_to)) rfl (.inr rfl) wz (aJ kw rfl 0 rfl wz (gP 9 (.inr (by kernel_rfl)) (λ_ _ ag=>⟨.inr (.inr (by kernel_rfl)),trivial⟩) 1 sz3 rfl rfl [(vI (tT s_38.2.2 y_62.f_to)),(vI x_5.f_to)] rfl wz (ah (au (aa (vI s_38.2.1) (aa (vI (w64 (s_38.2.1+1))) (aa (vI (w64 (s_38.2.1+1))) (ah ?_)))))))))))
         obtain rfl:=ae hc_41
         exact aS (k_33,(v_53,(w64 (s_38.2.1+1)),(tT s_38.2.2 y_62.f_to)),n_55) hL_42 (ls_ _) rfl (aI rfl)
       ·refine ax rfl hc_50 (aV ?_)
        obtain rfl:=ae hc_41
        obtain rfl:=ae hL_42
        exact aU ((s_38.1,s_38.2.1,s_38.2.2),n_40) rfl rfl (aI rfl)
    ·rintro ⟨s_38,n_40⟩ ho_ sl_ H_ hp_ hq_
     subst ho_
     refine aO _ hp_ hq_ (ai (aJ kw rfl 0 rfl wz (aH 0 1 il ft sz3 ag3 rfl rfl (vI s_38.2.2) rfl wz (aJ qK rfl 1 rfl wz (aH 0 1 il ft sz3 ag3 rfl rfl (vI x_5.f_to) rfl wz (aa (vB (decide (s_38.2.2<x_5.f_to))) (ah ?_)))))))
     obtain ⟨v_64,h_65,hc_12⟩:=bind_some hc_12
     refine kv (β:=Nm) (λ(n_66:Nm)=>([(1,(vL Run.enc m_2)),(5,(gV n_66 2 v_64)),(6,(vI s_22)),(10,(vL Run.enc l_1)),(11,(vI (l_1.length:Int))),(12,(vI (k_3:Int)))]:SL_)) (λ(n_66:Nm)=>([(n_66,gB 2 Run.enc v_64),(n_16,some (.cells 2 [(vI s_38.2.2),(vI x_5.f_to)]))]:Hp)) (λ_=>True) ?_ ?_
     ·rcases aj h_65 with⟨hc_67,h_65⟩|⟨hc_67,h_65⟩
      ·refine aA rfl hc_67 (au (aa (gV n_40 2 s_38.1) (aH 0 1 il ft mX xu rfl rfl (.d (.agg (Run.enc (⟨s_38.2.2,x_5.f_to⟩:Run)))) rfl wz (iK (([(⟨s_38.2.2,x_5.f_to⟩:Run)]:List Run).map Run.enc) lc K3 rfl rfl rfl rfl rfl wz ?_))))
       obtain ⟨a_68,hz_69,h_65⟩:=bind_some h_65
       refine mQ 0 il ft (i:=0) Be Be mX Jk rfl (by decide) KU (by decide) (λ_=>rfl) rfl rfl rfl hz_69 wz (λn_70=>aa (gV n_70 2 a_68) (ah ?_))
       obtain rfl:=ae h_65
       exact aU n_70 trivial rfl (aI rfl)
      ·refine ax rfl hc_67 (av ?_)
       obtain rfl:=ae h_65
       exact aU n_40 trivial rfl (aI rfl)
     ·rintro n_66 _ sl_ H_ hp_ hq_
      refine aO _ hp_ hq_ (au (fq (bH hD_6 hn_7) wz rfl (aa (vI ((k_3+1:Nat):Int)) (ah ?_))))
      obtain rfl:=ae hc_12
      exact aS (k_3+1,l_4,(v_64,s_22),n_66) ⟨hL_13,aR hD_6⟩ (ls_ _) rfl (aI rfl)
 ·rintro ⟨s_8,n_11⟩ ho_ sl_ H_ hp_ hq_
  subst ho_
  refine aO _ hp_ hq_ (ai (aa (gV n_11 2 s_8.1) (aa (gV n_11 2 s_8.1) (ah (gG 0 rfl (eT 4 0 rfl rfl (eT 5 0 rfl rfl (eT 87 0 rfl rfl ?_))))))))
  obtain rfl:=ae hF
  exact ay (aK [(vL Run.enc s_8.1)] ⟨rfl,trivial⟩)
theorem lJ {s1_1:(List Run)} {s2_2:(List Run)} {r:Bool} (hF:dE s1_1 s2_2=some r) :
  FnM Tryz.prog 91 [(vL Run.enc s1_1),(vL Run.enc s2_2)] [] (vB r) []:=by
 refine FnM.of_wH ⟨Tryz.prog,26,[],[]⟩ rfl Tryz.func91 rfl rfl (lb_ rfl) (by kernel_rfl) ?_
 unfold dE at hF
 refine ai (aa (vB false) (ah (ak (ai (aa (vL Run.enc s1_1) (bG yu rfl wz (aa (vL Run.enc s2_2) (bG yu rfl wz (aa (vB ((s1_1.length:Int) != (s2_2.length:Int))) (ah ?_))))))))))
 rcases aj hF with⟨hc_3,hF⟩|⟨hc_3,hF⟩
 ·refine aA rfl hc_3 (ai (aa (vB false) (ah ?_)))
  obtain rfl:=ae hF
  exact ay (aK [(vB false)] ⟨rfl,trivial⟩)
 ·refine ax rfl hc_3 (av (ak (ai (aa (vL Run.enc s1_1) (bG yu rfl wz (aa (vI 0) (ah ?_)))))))
  obtain ⟨o_12,hj_13,hF⟩:=bind_some hF
  obtain ⟨hn_8,hj_13⟩:=bg hj_13
  refine cK (λ(s_9:Unit)=>[]) (λ(s_9:Unit)=>[]) (λ(k_4:Nat)=>(λ(s_9:Unit)=>[(0,(vL Run.enc s1_1)),(1,(vL Run.enc s2_2)),(12,(vI (s1_1.length:Int))),(13,(vI (k_4:Int)))])) (λk x s=>dX s2_2 k x s) o_12 s1_1 () hj_13 rfl (aI rfl) ?_ ?_
  ·rintro ⟨k_4,l_5,s_9⟩ ⟨hL_11,hD_7⟩
   dsimp only at hL_11 hD_7
   cases l_5 with
   | nil =>
    obtain rfl:=ae hL_11
    refine ai (aa (vB (decide ((k_4:Int)<(s1_1.length:Int)))) (ah ?_))
    refine ak (ax rfl (drop_nil hD_7) (aV ?_))
    exact aU (s_9) rfl rfl (aI rfl)
   | cons x_6 l_5 =>
    obtain ⟨c_,hc_10,hL_11⟩:=bind_some hL_11
    refine ai (aa (vB (decide ((k_4:Int)<(s1_1.length:Int)))) (ah ?_))
    refine ak (aA rfl (bz hD_7) (av ?_))
    unfold dX at hc_10
    refine ak (aN (ai (aa (vI (k_4:Int)) (aa (vI (k_4:Int)) (ah (ak (aZ (aa (vL Run.enc s1_1) (aa (vI (k_4:Int)) (dB lc rfl rfl (bK hD_7) rfl wz (bA mX xu rfl (.d (.agg (Run.enc x_6))) rfl wz (aa (vL Run.enc s2_2) (aa (vI (k_4:Int)) ?_)))))))))))))
    obtain ⟨y_14,hy_15,hc_10⟩:=bind_some hc_10
    refine dB lc rfl rfl hy_15 rfl wz (bA mX xu rfl (.d (.agg (Run.enc y_14))) rfl wz (aG (vB (!((x_6.f_from==y_14.f_from)&&((x_6.f_to==y_14.f_to)&&true)))) wz (by kernel_rfl) (ah ?_)))
    rcases aj hc_10 with⟨hc_16,hc_10⟩|⟨hc_16,hc_10⟩
    ·refine aA rfl hc_16 (ai (aa (vB false) (ah ?_)))
     obtain rfl:=ae hc_10
     obtain rfl:=ae hL_11
     obtain rfl:=ae hF
     exact ay (aK [(vB false)] ⟨rfl,trivial⟩)
    ·refine ax rfl hc_16 (av (au (fq (bH hD_7 hn_8) wz rfl (aa (vI ((k_4+1:Nat):Int)) (ah ?_)))))
     obtain rfl:=ae hc_10
     exact aS (k_4+1,l_5,()) ⟨hL_11,aR hD_7⟩ (ls_ _) rfl (aI rfl)
  ·rintro s_9 ho_ sl_ H_ hp_ hq_
   subst ho_
   refine aO _ hp_ hq_ (ai (aa (vB true) (ah ?_)))
   obtain rfl:=ae hF
   exact ay (aK [(vB true)] ⟨rfl,trivial⟩)
theorem zY {l_1:(List Rect)} {m_2:(List Rect)} {r:(List Rect)} (hF:lY l_1 m_2=some r) :
  FnM Tryz.prog 55 [(vL Rect.enc l_1),(vL Rect.enc m_2)] [] (vL Rect.enc r) []:=by
 refine FnM.of_wH ⟨Tryz.prog,88,[],[]⟩ rfl Tryz.func55 rfl rfl (lb_ rfl) (by kernel_rfl) ?_
 unfold lY at hF
 refine ai (aa .nil (ah (ai (aa .nil (ah (ak (ai (aa (vL Rect.enc l_1) (aa (vL Rect.enc m_2) (iK (([l_1,m_2]:List (List Rect)).map (eL Rect.enc)) MO ez182 rfl rfl rfl rfl rfl wz ?_))))))))))
 obtain ⟨r_3,hr_4,hF⟩:=bind_some hF
 refine aB (mG hr_4) rfl hb86 rfl rfl rfl rfl wz (bG AC rfl wz (aa (vI 0) (ah (oJ (λn_11 => ?_)))))
 obtain ⟨o_16,hj_17,hF⟩:=bind_some hF
 obtain ⟨hn_9,hj_17⟩:=bg hj_17
 refine jc (σ:=(List Int)) (N:=Nm) (λp=>(λ(s_10:List Int) (n_13:Nm)=>([(0,(vL Rect.enc l_1)),(1,(vL Rect.enc m_2)),(5,(gV n_13 1 s_10))]:SL_)) p.1 p.2) (λp=>(λ(s_10:List Int) (n_13:Nm)=>([(n_13,gB 1 eI s_10)]:Hp)) p.1 p.2) (λ(k_5:Nat)=>(λp=>(λ(s_10:List Int) (n_13:Nm)=>([(0,(vL Rect.enc l_1)),(1,(vL Rect.enc m_2)),(5,(gV n_13 1 s_10)),(19,(vL Rect.enc r_3)),(20,(vI (r_3.length:Int))),(21,(vI (k_5:Int)))]:SL_)) p.1 p.2)) (λk x s=>lC k x s) o_16 r_3 (([]:List Int),n_11) hj_17 rfl (aI rfl) ?_ ?_
 ·rintro ⟨k_5,l_6,s_10,n_13⟩ ⟨hL_15,hD_8⟩
  dsimp only at hL_15 hD_8
  cases l_6 with
  | nil =>
   obtain rfl:=ae hL_15
   refine ai (aa (vB (decide ((k_5:Int)<(r_3.length:Int)))) (ah ?_))
   refine ak (ax rfl (drop_nil hD_8) (aV ?_))
   exact aU (s_10,n_13) rfl rfl (aI rfl)
  | cons x_7 l_6 =>
   obtain ⟨c_,hc_14,hL_15⟩:=bind_some hL_15
   refine ai (aa (vB (decide ((k_5:Int)<(r_3.length:Int)))) (ah ?_))
   refine ak (aA rfl (bz hD_8) (av ?_))
   unfold lC at hc_14
   refine ak (aN (ai (dB E5 rfl rfl (bK hD_8) rfl wz (bA wR Iz rfl (.d (.agg (Rect.enc x_7))) rfl wz (dK 0 (.inl rfl) z78 rfl wz (λn_18=>gP 0 il ft 1 wR rfl rfl (Rect.v x_7) rfl wz (ah (au (aa (gV n_13 1 s_10) (aJ wY rfl 1 rfl wz (aH 0 1 il ft sz3 ag3 rfl rfl (vI x_7.Y) rfl wz (aJ wY rfl 1 rfl wz (aH 0 1 il ft sz3 ag3 rfl rfl (vI x_7.Y) rfl wz (aJ Dv rfl 3 rfl wz (aH 0 1 il ft sz3 ag3 rfl rfl (vI x_7.H) rfl wz (aa (vI (w64 (x_7.Y+x_7.H))) (iK (([x_7.Y,(w64 (x_7.Y+x_7.H))]:List Int).map eI) qV J2 rfl rfl rfl rfl rfl wz ?_)))))))))))))))))
   obtain ⟨a_19,hz_20,hc_14⟩:=bind_some hc_14
   refine mQ 0 il ft (i:=0) IZ IZ sz3 z3 rfl (by decide) by3 (by decide) (λ_=>rfl) rfl rfl rfl hz_20 wz (λn_21=>aa (gV n_21 1 a_19) (ah (au (fq (bH hD_8 hn_9) wz rfl (aa (vI ((k_5+1:Nat):Int)) (ah ?_))))))
   obtain rfl:=ae hc_14
   exact aS (k_5+1,l_6,a_19,n_21) ⟨hL_15,aR hD_8⟩ (ls_ _) rfl (aI rfl)
 ·rintro ⟨s_10,n_13⟩ ho_ sl_ H_ hp_ hq_
  subst ho_
  refine aO _ hp_ hq_ (ai (aa (gV n_13 1 s_10) ?_))
  obtain ⟨r_22,hr_23,hF⟩:=bind_some hF
  obtain ⟨_,hs_24,hF⟩:=bind_some hF
  replace hs_24:=pX hs_24
  refine pq 0 [] 0 0 il ft (rY hr_23) rfl hb87 rfl rfl rfl (by kernel_rfl) rfl (.inl rfl) rfl (by kernel_rfl) (by kernel_rfl) (by kernel_rfl) (by kernel_rfl) rfl (by decide) (by kernel_rfl) rH (Bp hs_24) wz ([(n_13,gB 1 eI r_22)]:Hp) (by kernel_rfl) (eO (v':=(gV n_13 1 r_22)) 36 rfl (j6 hs_24.symm) (eO (v':=(gV n_13 1 r_22)) 5 rfl (j6 hs_24.symm) (ah (ai (aa (gV n_13 1 r_22) ?_)))))
  obtain ⟨r_25,hr_26,hF⟩:=bind_some hF
  refine pq 0 [] 0 0 il ft (qm hr_26) rfl hb88 rfl rfl rfl (by kernel_rfl) rfl (.inl rfl) rfl (by kernel_rfl) (by kernel_rfl) (by kernel_rfl) (by kernel_rfl) rfl (by decide) (by kernel_rfl) sD (λ_=>rfl) wz ([(n_13,none)]:Hp) (by kernel_rfl) (aa (vL eI r_25) (ah (ai (aa .nil (ah (ai (aa .nil (ah (ai (aa (vI 0) (ah (ak (ai (aa (vL eI r_25) (bG uF rfl wz (aa (vI 0) (ah (Kr Run.enc 9 rfl (oJ (λn_33 => ?_))))))))))))))))))))
  obtain ⟨o_38,hj_39,hF⟩:=bind_some hF
  obtain ⟨hn_31,hj_39⟩:=bg hj_39
  refine jc (σ:=(List Rect)×(List Run)×Int) (N:=Nm) (λp=>(λ(s_32:(List Rect)×(List Run)×Int) (n_35:Nm)=>([(8,(gV n_35 4 s_32.1))]:SL_)) p.1 p.2) (λp=>(λ(s_32:(List Rect)×(List Run)×Int) (n_35:Nm)=>([(n_13,none),(n_35,gB 4 Rect.enc s_32.1)]:Hp)) p.1 p.2) (λ(k_27:Nat)=>(λp=>(λ(s_32:(List Rect)×(List Run)×Int) (n_35:Nm)=>([(0,(vL Rect.enc l_1)),(1,(vL Rect.enc m_2)),(5,(vL eI r_25)),(8,(gV n_35 4 s_32.1)),(9,(vL Run.enc s_32.2.1)),(10,(vI s_32.2.2)),(40,(vL eI r_25)),(41,(vI (r_25.length:Int))),(42,(vI (k_27:Int)))]:SL_)) p.1 p.2)) (λk x s=>jB r_25 l_1 m_2 k x s) o_38 r_25 ((([]:List Rect),([]:List Run),0),n_33) hj_39 rfl (aI rfl) ?_ ?_
  ·rintro ⟨k_27,l_28,s_32,n_35⟩ ⟨hL_37,hD_30⟩
   dsimp only at hL_37 hD_30
   cases l_28 with
   | nil =>
    obtain rfl:=ae hL_37
    refine ai (aa (vB (decide ((k_27:Int)<(r_25.length:Int)))) (ah ?_))
    refine ak (ax rfl (drop_nil hD_30) (aV ?_))
    exact aU (s_32,n_35) rfl rfl (aI rfl)
   | cons x_29 l_28 =>
    obtain ⟨c_,hc_36,hL_37⟩:=bind_some hL_37
    refine ai (aa (vB (decide ((k_27:Int)<(r_25.length:Int)))) (ah ?_))
    refine ak (aA rfl (bz hD_30) (av ?_))
    unfold jB at hc_36
    refine ak (aN (ai (aa (vI (k_27:Int)) (dB qV rfl rfl (bK hD_30) rfl wz (bA sz3 ag3 rfl (vI x_29) rfl wz (aa (vI (k_27:Int)) (aa (vI x_29) (ah (ai (aa .nil (ah (ak (ai (aa (vI (k_27:Int)) (aa (vI (w64 ((k_27:Int)+1))) (aa (vL eI r_25) (bG uF rfl wz (aa (vB (decide ((w64 ((k_27:Int)+1))<(r_25.length:Int)))) (ah (Kr Run.enc 13 rfl ?_))))))))))))))))))))
    obtain ⟨v_42,h_43,hc_36⟩:=bind_some hc_36
    refine aM [(0,(vL Rect.enc l_1)),(1,(vL Rect.enc m_2)),(5,(vL eI r_25)),(8,(gV n_35 4 s_32.1)),(9,(vL Run.enc s_32.2.1)),(10,(vI s_32.2.2)),(12,(vI x_29)),(13,(vL Run.enc v_42)),(40,(vL eI r_25)),(41,(vI (r_25.length:Int))),(42,(vI (k_27:Int)))] [(n_13,none),(n_35,gB 4 Rect.enc s_32.1)] ?_ ?_
    ·rcases aj h_43 with⟨hc_44,h_43⟩|⟨hc_44,h_43⟩
     ·refine aA rfl hc_44 (au (aa (vL Rect.enc l_1) (aa (vI x_29) ?_)))
      obtain ⟨r_45,hr_46,h_43⟩:=bind_some h_43
      refine aB (wS hr_46) rfl hb90 rfl rfl rfl rfl wz (aa (vL Rect.enc m_2) (aa (vI x_29) ?_))
      obtain ⟨r_47,hr_48,h_43⟩:=bind_some h_43
      refine aB (wS hr_48) rfl hb90 rfl rfl rfl rfl wz ?_
      obtain ⟨r_49,hr_50,h_43⟩:=bind_some h_43
      refine aB (Di hr_50) rfl hb89 rfl rfl rfl rfl wz (aa (vL Run.enc r_49) (ah ?_))
      obtain rfl:=ae h_43
      exact cu
     ·refine ax rfl hc_44 (av ?_)
      obtain rfl:=ae h_43
      exact cu
    ·rintro ⟨⟩ _ sl_ H_ hp_ hq_
     refine aO _ hp_ hq_ (ak (ai (aa (vL Run.enc s_32.2.1) (aa (vL Run.enc v_42) ?_))))
     obtain ⟨r_51,hr_52,hc_36⟩:=bind_some hc_36
     refine aB (lJ hr_52) rfl hb91 rfl rfl rfl rfl wz (ah ?_)
     rcases aj hc_36 with⟨hc_53,hc_36⟩|⟨hc_53,hc_36⟩
     ·refine aA rfl hc_53 (aV (au (fq (bH hD_30 hn_31) wz rfl (aa (vI ((k_27+1:Nat):Int)) (ah ?_)))))
      obtain rfl:=ae hc_36
      exact aS (k_27+1,l_28,(s_32.1,s_32.2.1,s_32.2.2),n_35) ⟨hL_37,aR hD_30⟩ (ls_ _) rfl (aI rfl)
     ·refine ax rfl hc_53 (av (ak (ai (aa (vL Run.enc s_32.2.1) (bG yu rfl wz (aa (vI 0) (ah ?_)))))))
      obtain ⟨o_64,hj_65,hc_36⟩:=bind_some hc_36
      obtain ⟨hn_58,hj_65⟩:=bg hj_65
      refine jc (σ:=(List Rect)) (N:=Nm) (λp=>(λ(s_59:List Rect) (n_61:Nm)=>([(0,(vL Rect.enc l_1)),(1,(vL Rect.enc m_2)),(5,(vL eI r_25)),(8,(gV n_61 4 s_59)),(12,(vI x_29)),(13,(vL Run.enc v_42)),(40,(vL eI r_25)),(41,(vI (r_25.length:Int))),(42,(vI (k_27:Int)))]:SL_)) p.1 p.2) (λp=>(λ(s_59:List Rect) (n_61:Nm)=>([(n_13,none),(n_61,gB 4 Rect.enc s_59)]:Hp)) p.1 p.2) (λ(k_54:Nat)=>(λp=>(λ(s_59:List Rect) (n_61:Nm)=>([(0,(vL Rect.enc l_1)),(1,(vL Rect.enc m_2)),(5,(vL eI r_25)),(8,(gV n_61 4 s_59)),(10,(vI s_32.2.2)),(12,(vI x_29)),(13,(vL Run.enc v_42)),(40,(vL eI r_25)),(41,(vI (r_25.length:Int))),(42,(vI (k_27:Int))),(62,(vL Run.enc s_32.2.1)),(63,(vI (s_32.2.1.length:Int))),(64,(vI (k_54:Int)))]:SL_)) p.1 p.2)) (λk x s=>lH s_32 x_29 k x s) o_64 s_32.2.1 (s_32.1,n_35) hj_65 rfl (aI rfl) ?_ ?_
      ·rintro ⟨k_54,l_55,s_59,n_61⟩ ⟨hL_63,hD_57⟩
       dsimp only at hL_63 hD_57
       cases l_55 with
       | nil =>
        obtain rfl:=ae hL_63
        refine ai (aa (vB (decide ((k_54:Int)<(s_32.2.1.length:Int)))) (ah ?_))
        refine ak (ax rfl (drop_nil hD_57) (aV ?_))
        exact aU (s_59,n_61) rfl rfl (aI rfl)
       | cons x_56 l_55 =>
        obtain ⟨c_,hc_62,hL_63⟩:=bind_some hL_63
        refine ai (aa (vB (decide ((k_54:Int)<(s_32.2.1.length:Int)))) (ah ?_))
        refine ak (aA rfl (bz hD_57) (av ?_))
        unfold lH at hc_62
        refine ak (aN (ai (dB lc rfl rfl (bK hD_57) rfl wz (bA mX xu rfl (.d (.agg (Run.enc x_56))) rfl wz (dK 0 (.inl rfl) Jk rfl wz (λn_66=>gP 0 il ft 2 mX rfl rfl [(vI x_56.f_from),(vI x_56.f_to)] rfl wz (ah (au (aa (gV n_61 4 s_59) (aJ kw rfl 0 rfl wz (aH 0 2 il ft sz3 ag3 rfl rfl (vI x_56.f_from) rfl wz (aa (vI s_32.2.2) (aJ qK rfl 1 rfl wz (aH 0 2 il ft sz3 ag3 rfl rfl (vI x_56.f_to) rfl wz (aJ kw rfl 0 rfl wz (aH 0 2 il ft sz3 ag3 rfl rfl (vI x_56.f_from) rfl wz (aa (vI (w64 (x_56.f_to-x_56.f_from))) (aa (vI x_29) (aa (vI s_32.2.2) (aa (vI (w64 (x_29-s_32.2.2))) (aG (.d (.agg (Rect.enc (⟨x_56.f_from,s_32.2.2,(w64 (x_56.f_to-x_56.f_from)),(w64 (x_29-s_32.2.2))⟩:Rect)))) wz (by kernel_rfl) (iK (([(⟨x_56.f_from,s_32.2.2,(w64 (x_56.f_to-x_56.f_from)),(w64 (x_29-s_32.2.2))⟩:Rect)]:List Rect).map Rect.enc) E5 ez79 rfl rfl rfl rfl rfl wz ?_))))))))))))))))))))))
        obtain ⟨a_67,hz_68,hc_62⟩:=bind_some hc_62
        refine mQ 0 il ft (i:=1) J7 J7 wR z78 rfl (by decide) by78 (by decide) (λ_=>rfl) rfl rfl rfl hz_68 wz (λn_69=>aa (gV n_69 4 a_67) (ah (au (fq (bH hD_57 hn_58) wz rfl (aa (vI ((k_54+1:Nat):Int)) (ah ?_))))))
        obtain rfl:=ae hc_62
        exact aS (k_54+1,l_55,a_67,n_69) ⟨hL_63,aR hD_57⟩ (ls_ _) rfl (aI rfl)
      ·rintro ⟨s_59,n_61⟩ ho_ sl_ H_ hp_ hq_
       subst ho_
       refine aO _ hp_ hq_ (au (aa (vL Run.enc v_42) (aa (vI x_29) (aa (vL Run.enc v_42) (aa (vI x_29) (ah (au (fq (bH hD_30 hn_31) wz rfl (aa (vI ((k_27+1:Nat):Int)) (ah ?_))))))))))
       obtain rfl:=ae hc_36
       exact aS (k_27+1,l_28,(s_59,v_42,x_29),n_61) ⟨hL_37,aR hD_30⟩ (ls_ _) rfl (aI rfl)
  ·rintro ⟨s_32,n_35⟩ ho_ sl_ H_ hp_ hq_
   subst ho_
   refine aO _ hp_ hq_ (ai (aa (gV n_35 4 s_32.1) (aa (gV n_35 4 s_32.1) (ah (gG 1 rfl (eT 4 1 rfl rfl (eT 8 1 rfl rfl (eT 87 1 rfl rfl ?_))))))))
   obtain rfl:=ae hF
   exact ay (aK [(vL Rect.enc s_32.1)] ⟨rfl,trivial⟩)
theorem Dr {l_1:(List Rect)} {r:Int} (hF:sJ l_1=some r) :
  FnM Tryz.prog 54 [(vL Rect.enc l_1)] [] (vI r) []:=by
 refine FnM.of_wH ⟨Tryz.prog,21,[],[]⟩ rfl Tryz.func54 rfl rfl (lb_ rfl) (by kernel_rfl) ?_
 unfold sJ at hF
 refine ai (aa (vI 0) (ah (ai (aa (vI 0) (ah (ak (ai (aa (vL Rect.enc l_1) (bG AC rfl wz (aa (vI 0) (ah ?_)))))))))))
 obtain ⟨o_10,hj_11,hF⟩:=bind_some hF
 obtain ⟨hn_6,hj_11⟩:=bg hj_11
 refine cK (λ(s_7:Int)=>[(3,(vI s_7))]) (λ(s_7:Int)=>[]) (λ(k_2:Nat)=>(λ(s_7:Int)=>[(3,(vI s_7)),(6,(vL Rect.enc l_1)),(7,(vI (l_1.length:Int))),(8,(vI (k_2:Int)))])) (λk x s=>rG k x s) o_10 l_1 0 hj_11 rfl (aI rfl) ?_ ?_
 ·rintro ⟨k_2,l_3,s_7⟩ ⟨hL_9,hD_5⟩
  dsimp only at hL_9 hD_5
  cases l_3 with
  | nil =>
   obtain rfl:=ae hL_9
   refine ai (aa (vB (decide ((k_2:Int)<(l_1.length:Int)))) (ah ?_))
   refine ak (ax rfl (drop_nil hD_5) (aV ?_))
   exact aU (s_7) rfl rfl (aI rfl)
  | cons x_4 l_3 =>
   obtain ⟨c_,hc_8,hL_9⟩:=bind_some hL_9
   refine ai (aa (vB (decide ((k_2:Int)<(l_1.length:Int)))) (ah ?_))
   refine ak (aA rfl (bz hD_5) (av ?_))
   unfold rG at hc_8
   refine ak (aN (ai (dB E5 rfl rfl (bK hD_5) rfl wz (bA wR Iz rfl (.d (.agg (Rect.enc x_4))) rfl wz (dK 0 (.inl rfl) z78 rfl wz (λn_12=>gP 0 il ft 0 wR rfl rfl (Rect.v x_4) rfl wz (ah (au (aa (vI s_7) (aJ Gt rfl 2 rfl wz (aH 0 0 il ft sz3 ag3 rfl rfl (vI x_4.W) rfl wz (aJ Dv rfl 3 rfl wz (aH 0 0 il ft sz3 ag3 rfl rfl (vI x_4.H) rfl wz (aa (vI (w64 (x_4.W*x_4.H))) (aa (vI (w64 (s_7+(w64 (x_4.W*x_4.H))))) (aa (vI (w64 (s_7+(w64 (x_4.W*x_4.H))))) (ah (au (fq (bH hD_5 hn_6) wz rfl (aa (vI ((k_2+1:Nat):Int)) (ah ?_)))))))))))))))))))))
   obtain rfl:=ae hc_8
   exact aS (k_2+1,l_3,(w64 (s_7+(w64 (x_4.W*x_4.H))))) ⟨hL_9,aR hD_5⟩ (ls_ _) rfl (aI rfl)
 ·rintro s_7 ho_ sl_ H_ hp_ hq_
  subst ho_
  refine aO _ hp_ hq_ (ai (aa (vI s_7) (aa (vI s_7) (ah ?_))))
  obtain rfl:=ae hF
  exact ay (aK [(vI s_7)] ⟨rfl,trivial⟩)
theorem DU {l_1:(List Rect)} {r:Int×Int} (hF:pI l_1=some r) :
  FnM Tryz.prog 34 [(vL Rect.enc l_1)] [] (.tup [(vI r.1),(vI r.2)]) []:=by
 refine FnM.of_wH ⟨Tryz.prog,13,[],[]⟩ rfl Tryz.func34 rfl rfl (lb_ rfl) (by kernel_rfl) ?_
 unfold pI at hF
 refine ai (aa (vI 0) (aa (vI 0) (ah (ak (ai (aa (vL Rect.enc l_1) ?_))))))
 obtain ⟨r_2,hr_3,hF⟩:=bind_some hF
 refine aB (wP hr_3) rfl hb53 rfl rfl rfl rfl wz (aa (vI r_2) (ah (ai (aa (vI r_2) (aa (vB (r_2 != 0)) (ah ?_))))))
 rcases aj hF with⟨hc_4,hF⟩|⟨hc_4,hF⟩
 ·refine aA rfl hc_4 (ai (aa (vI r_2) (aa (vI 0) (aa (vI r_2) (ah ?_)))))
  obtain rfl:=ae hF
  exact ay (aK [(vI 0),(vI r_2)] ⟨rfl,⟨rfl,trivial⟩⟩)
 ·refine ax rfl hc_4 (av (ai (aa (vL Rect.enc l_1) ?_)))
  obtain ⟨r_5,hr_6,hF⟩:=bind_some hF
  refine aB (zY hr_6) rfl hb55 rfl rfl rfl rfl wz ?_
  obtain ⟨r_7,hr_8,hF⟩:=bind_some hF
  refine aB (Dr hr_8) rfl hb54 rfl rfl rfl rfl wz (aa (vI r_7) (aa (vI 0) (ah ?_)))
  obtain rfl:=ae hF
  exact ay (aK [(vI r_7),(vI 0)] ⟨rfl,⟨rfl,trivial⟩⟩)
theorem Gp {n_1:Int} {r:Bool} (hF:AZ n_1=some r) :
  FnM Tryz.prog 167 [(vI n_1)] [] (vB r) []:=by
 refine FnM.of_wH ⟨Tryz.prog,9,[],[]⟩ rfl Tryz.func167 rfl rfl (lb_ rfl) (by kernel_rfl) ?_
 unfold AZ at hF
 refine ai (aa (vB false) (ah (ak ?_)))
 obtain ⟨v_2,h_3,hF⟩:=bind_some hF
 refine aM [(2,(vB v_2))] [] ?_ ?_
 ·refine au (aa (vI n_1) (aa (vB (decide (n_1>=0))) ?_))
  rcases aj h_3 with⟨hc_4,h_3⟩|⟨hc_4,h_3⟩
  ·refine aC rfl hc_4 wz (aG (vI n_1) wa rfl (aG (vB (decide (n_1<=4000))) wa rfl (aa (vB (decide (n_1<=4000))) (aa (vB (decide (n_1<=4000))) (ah ?_)))))
   obtain rfl:=ae h_3
   exact cu
  ·refine aC rfl hc_4 wz (af (af (aa (vB false) (aa (vB false) (ah ?_)))))
   obtain rfl:=ae h_3
   exact cu
 ·rintro ⟨⟩ _ sl_ H_ hp_ hq_
  refine aO _ hp_ hq_ ?_
  obtain rfl:=ae hF
  exact ay (aK [(vB v_2)] ⟨rfl,trivial⟩)
theorem tL {l_1:(List Int)} {r:Int} (hF:jg l_1=some r) :
  FnM Tryz.prog 127 [(vL eI l_1)] [] (vI r) []:=by
 refine FnM.of_wH ⟨Tryz.prog,30,[],[]⟩ rfl Tryz.func127 rfl rfl (lb_ rfl) (by kernel_rfl) ?_
 unfold jg at hF
 refine ai (aa (vI 0) (ah (ak (ai (aa (vL eI l_1) (bG uF rfl wz (aa (vB (decide ((l_1.length:Int)>100))) (ah ?_))))))))
 rcases aj hF with⟨hc_2,hF⟩|⟨hc_2,hF⟩
 ·refine aA rfl hc_2 (ai (aa (vI 2) (ah ?_)))
  obtain rfl:=ae hF
  exact ay (aK [(vI 2)] ⟨rfl,trivial⟩)
 ·refine ax rfl hc_2 (av (ak (ai (aa (vL eI l_1) (bG uF rfl wz (aa (vI 0) (ah ?_)))))))
  obtain ⟨o_11,hj_12,hF⟩:=bind_some hF
  obtain ⟨hn_7,hj_12⟩:=bg hj_12
  refine cK (λ(s_8:Unit)=>[]) (λ(s_8:Unit)=>[]) (λ(k_3:Nat)=>(λ(s_8:Unit)=>[(0,(vL eI l_1)),(8,(vL eI l_1)),(9,(vI (l_1.length:Int))),(10,(vI (k_3:Int)))])) (λk x s=>jH l_1 k x s) o_11 l_1 () hj_12 rfl (aI rfl) ?_ ?_
  ·rintro ⟨k_3,l_4,s_8⟩ ⟨hL_10,hD_6⟩
   dsimp only at hL_10 hD_6
   cases l_4 with
   | nil =>
    obtain rfl:=ae hL_10
    refine ai (aa (vB (decide ((k_3:Int)<(l_1.length:Int)))) (ah ?_))
    refine ak (ax rfl (drop_nil hD_6) (aV ?_))
    exact aU (s_8) rfl rfl (aI rfl)
   | cons x_5 l_4 =>
    obtain ⟨c_,hc_9,hL_10⟩:=bind_some hL_10
    refine ai (aa (vB (decide ((k_3:Int)<(l_1.length:Int)))) (ah ?_))
    refine ak (aA rfl (bz hD_6) (av ?_))
    unfold jH at hc_9
    refine ak (aN (ai (aa (vI (k_3:Int)) (dB qV rfl rfl (bK hD_6) rfl wz (bA sz3 ag3 rfl (vI x_5) rfl wz (aa (vI (k_3:Int)) (aa (vI x_5) (ah (ak (ai (aa (vI x_5) ?_)))))))))))
    obtain ⟨r_13,hr_14,hc_9⟩:=bind_some hc_9
    refine aB (Gp hr_14) rfl hb167 rfl rfl rfl rfl wz (aa (vB (!r_13)) (ah ?_))
    rcases aj hc_9 with⟨hc_15,hc_9⟩|⟨hc_15,hc_9⟩
    ·refine aA rfl hc_15 (ai (aa (vI 1) (ah ?_)))
     obtain rfl:=ae hc_9
     obtain rfl:=ae hL_10
     obtain rfl:=ae hF
     exact ay (aK [(vI 1)] ⟨rfl,trivial⟩)
    ·refine ax rfl hc_15 (av (ak ?_))
     obtain ⟨v_16,h_17,hc_9⟩:=bind_some hc_9
     refine aM [(0,(vL eI l_1)),(8,(vL eI l_1)),(9,(vI (l_1.length:Int))),(10,(vI (k_3:Int))),(28,(vB v_16))] [] ?_ ?_
     ·refine au (aa (vI (k_3:Int)) (aa (vB (decide ((k_3:Int)>0))) ?_))
      rcases aj h_17 with⟨hc_18,h_17⟩|⟨hc_18,h_17⟩
      ·refine aC rfl hc_18 wz (aG (vI x_5) wa rfl (aG (vL eI l_1) wa rfl (aG (vI (k_3:Int)) wa rfl (aG (vI (w64 ((k_3:Int)-1))) wa rfl ?_))))
       obtain ⟨y_19,hy_20,h_17⟩:=bind_some h_17
       refine dB qV rfl rfl hy_20 rfl wa (bA sz3 ag3 rfl (vI y_19) rfl wa (aG (vB (decide (x_5<=y_19))) wa rfl (aa (vB (decide (x_5<=y_19))) (ah ?_))))
       obtain rfl:=ae h_17
       exact cu
      ·refine aC rfl hc_18 wz (af (af (af (af (af (af (af (aa (vB false) (ah ?_)))))))))
       obtain rfl:=ae h_17
       exact cu
     ·rintro ⟨⟩ _ sl_ H_ hp_ hq_
      refine aO _ hp_ hq_ ?_
      rcases aj hc_9 with⟨hc_21,hc_9⟩|⟨hc_21,hc_9⟩
      ·refine aA rfl hc_21 (ai (aa (vI 7) (ah ?_)))
       obtain rfl:=ae hc_9
       obtain rfl:=ae hL_10
       obtain rfl:=ae hF
       exact ay (aK [(vI 7)] ⟨rfl,trivial⟩)
      ·refine ax rfl hc_21 (av (au (fq (bH hD_6 hn_7) wz rfl (aa (vI ((k_3+1:Nat):Int)) (ah ?_)))))
       obtain rfl:=ae hc_9
       exact aS (k_3+1,l_4,()) ⟨hL_10,aR hD_6⟩ (ls_ _) rfl (aI rfl)
  ·rintro s_8 ho_ sl_ H_ hp_ hq_
   subst ho_
   refine aO _ hp_ hq_ (ai (aa (vI 0) (ah ?_)))
   obtain rfl:=ae hF
   exact ay (aK [(vI 0)] ⟨rfl,trivial⟩)
end Go.Proofs.YtnkgapmhkhcanabGreatDoor.Law

