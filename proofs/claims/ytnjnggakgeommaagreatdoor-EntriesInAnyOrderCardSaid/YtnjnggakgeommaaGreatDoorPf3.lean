/-
 The machine computes these plain functions (written by a program of ours).
-/
import Derived.Test.YtnjnggakgeommaaGreatDoorFacts
import Derived.Test.YtnjnggakgeommaaGreatDoorDefs
import Derived.Test.YtnjnggakgeommaaGreatDoorPf2
import Derived.Test.YtnjnggakgeommaaGreatDoorShelf
open Go Go.Eng Go.Proofs
namespace Go.Proofs.YtnjnggakgeommaaGreatDoor.Law
set_option maxRecDepth 100000
set_option linter.unusedVariables false
set_option maxHeartbeats 1000000
theorem uP {l_1:(List Rect)} {r:Int} (hF:jP l_1=some r) :
  FnM Tryz.prog 104 [(vL Rect.enc l_1)] [] (vI r) []:=by
 refine FnM.of_wH ⟨Tryz.prog,21,[],[]⟩ rfl Tryz.func104 rfl rfl (lb_ rfl) (by kernel_rfl) ?_
 unfold jP at hF
 refine af (aa (ae (vI 0) wz rfl (ak (af (af (aa (ae (vL Rect.enc l_1) wz rfl (bJ rM rfl wz (ae (vB (decide ((l_1.length:Int)>2000))) wz rfl (ak ?_))))))))))
 rcases au hF with⟨hc_2,hF⟩|⟨hc_2,hF⟩
 ·refine aB rfl hc_2 (af (aa (ae (vI 2) wz rfl (ak ?_))))
  obtain rfl:=aj hF
  exact ay (aO (.inr rfl) [(vI 2)] ⟨rfl,trivial⟩ rfl rfl rfl)
 ·refine aA rfl hc_2 (av (af (af (aa (ae (vL Rect.enc l_1) wz rfl (bJ rM rfl wz (ae (vI 0) wz rfl (ak ?_))))))))
  obtain ⟨o_11,hj_12,hF⟩:=bind_some hF
  obtain ⟨hn_7,hj_12⟩:=bg hj_12
  refine aH (β:=(Unit)) (λ(s_8:Unit)=>([]:SL_)) (λ(s_8:Unit)=>([]:Hp)) (λp=>o_11 = .go p) ?_ ?_
  ·refine aG (bv (β:=Nat×(List Rect)×(Unit)) (λp=>(λ(k_3:Nat) (l_4:List Rect) (s_8:Unit)=>([(9,(vL Rect.enc l_1)),(10,(vI (l_1.length:Int))),(11,(vI (k_3:Int)))]:SL_)) p.1 p.2.1 p.2.2) (λp=>(λ(k_3:Nat) (l_4:List Rect) (s_8:Unit)=>([]:Hp)) p.1 p.2.1 p.2.2) (λp=>forR (λk x s=>ko k x s) p.2.1 p.1 p.2.2=some o_11/\(l_1).drop p.1=p.2.1) (λp=>p.2.1.length) (0,l_1,()) ⟨hj_12,rfl⟩ rfl (aK rfl) ?_)
   rintro ⟨k_3,l_4,s_8⟩ ⟨hL_10,hD_6⟩
   dsimp only at hL_10 hD_6
   cases l_4 with
   | nil =>
    obtain rfl:=aj hL_10
    refine af (aa (ae (vB (decide ((k_3:Int)<(l_1.length:Int)))) wz rfl (ak ?_)))
    refine af (aA rfl (drop_nil hD_6) (aX ?_))
    exact aS (s_8) rfl rfl (aK rfl)
   | cons x_5 l_4 =>
    obtain ⟨c_,hc_9,hL_10⟩:=bind_some hL_10
    refine af (aa (ae (vB (decide ((k_3:Int)<(l_1.length:Int)))) wz rfl (ak ?_)))
    refine af (aB rfl (bz hD_6) (av ?_))
    unfold ko at hc_9
    refine af (aG (af (aa (dP xN rfl rfl (bE hD_6) rfl wz (bO nY zB rfl (.d (.agg (Rect.enc x_5))) rfl wz (dA 0 (.inl rfl) Fv rfl wz (λn_13=>dX 0 il ft 0 nY rfl rfl [(vI x_5.X),(vI x_5.Y),(vI x_5.W),(vI x_5.H)] rfl wz (ak (af (aa (aC 0 0 il ft nY zB rfl rfl (.d (.agg (Rect.enc x_5))) rfl wz ?_)))))))))))
    obtain ⟨r_14,hr_15,hc_9⟩:=bind_some hc_9
    refine aD (o5 hr_15) rfl hb154 rfl rfl rfl rfl wz (ae (vI r_14) wz rfl (ak (af (aa (ae (vI r_14) wz rfl (ae (vB (r_14 != 0)) wz rfl (ak ?_)))))))
    rcases au hc_9 with⟨hc_16,hc_9⟩|⟨hc_16,hc_9⟩
    ·refine aB rfl hc_16 (af (aa (ae (vI r_14) wz rfl (ae (vI r_14) wz rfl (ak ?_)))))
     obtain rfl:=aj hc_9
     obtain rfl:=aj hL_10
     obtain rfl:=aj hF
     exact ay (aO (.inr rfl) [(vI r_14)] ⟨rfl,trivial⟩ rfl rfl rfl)
    ·refine aA rfl hc_16 (av (aa (eQ (bB hD_6 hn_7) wz rfl (ae (vI ((k_3+1:Nat):Int)) wz rfl (ak ?_)))))
     obtain rfl:=aj hc_9
     exact aY (k_3+1,l_4,()) ⟨hL_10,aR hD_6⟩ (ls_ _) rfl (aK rfl)
  ·rintro s_8 ho_ sl_ H_ hp_ hq_
   subst ho_
   refine aM _ hp_ hq_ (af (aa (ae (vI 0) wz rfl (ak ?_))))
   obtain rfl:=aj hF
   exact ay (aO (.inr rfl) [(vI 0)] ⟨rfl,trivial⟩ rfl rfl rfl)
theorem lK {n_1:Int} {r:Bool} (hF:fJ n_1=some r) :
  FnM Tryz.prog 207 [.nil,(vI n_1)] [] (kV r (aJ 0) 4 ([]:List Rect)) (kO r 4):=by
 refine FnM.of_wH ⟨Tryz.prog,27,[],[]⟩ rfl Tryz.func207 rfl rfl (lb_ rfl) (by kernel_rfl) ?_
 unfold fJ at hF
 refine af (aa (ae .nil wz rfl (ak (af (af (aa (ae (vI n_1) wz rfl (ae (vB (decide (n_1<0))) wz rfl (ak ?_)))))))))
 rcases au hF with⟨hc_2,hF⟩|⟨hc_2,hF⟩
 ·refine aB rfl hc_2 (aa ?_)
  cases hF
 ·refine aA rfl hc_2 (av (af (af (aa (ae (vI n_1) wz rfl (ae .nil wz rfl (EI BX rfl wz (ae .nil wz rfl (E9 rM rfl wz (ae (vI (w64 (0-0))) wz rfl (ae (vI (w64 (n_1-(w64 (0-0))))) wz rfl (ae (vI (w64 (n_1-(w64 (0-0))))) wz rfl (ak (af (aa (ae (vI (w64 (n_1-(w64 (0-0))))) wz rfl (ae (vB (decide ((w64 (n_1-(w64 (0-0))))>0))) wz rfl (ak ?_))))))))))))))))))
  rcases au hF with⟨hc_3,hF⟩|⟨hc_3,hF⟩
  ·refine aB rfl hc_3 (aa (ae .nil wz rfl (ae .nil wz rfl (EI BX rfl wz (ae .nil wz (by kernel_rfl) (ae (vI (w64 (n_1-(w64 (0-0))))) wz rfl ?_))))))
   obtain ⟨_,hz_5,hF⟩:=bind_some hF
   refine KW (enc:=Rect.enc) 0 (.inl rfl) BX (by kernel_rfl) nY Fv rfl (by decide) JU rfl rfl hz_5 wz (λn_4=>ae .nil wz rfl (E9 rM rfl wz (J2 (m:=0) rM nY rfl rfl rfl (Nat.zero_le _) wz (ae (.vs n_4 4 0 0) wz rfl (ak (af (aa (ae (.vs n_4 4 0 0) wz rfl (ae (.vs n_4 4 0 0) wz rfl (ak ?_))))))))))
   obtain rfl:=aj hF
   exact ay (finK (.inr rfl) 0 rfl rfl)
  ·refine aA rfl hc_3 (av (af (aa (ae .nil wz rfl (ae .nil wz rfl (ak ?_))))))
   obtain rfl:=aj hF
   exact ay (finK0 (.inr rfl) rfl)
theorem lT {slices_1:(List (List Rect))} {r:(List Rect)} (hF:dJ slices_1=some r) :
  FnM Tryz.prog 155 [(vL (eL Rect.enc) slices_1)] [] (vL Rect.enc r) []:=by
 refine FnM.of_wH ⟨Tryz.prog,36,[],[]⟩ rfl Tryz.func155 rfl rfl (lb_ rfl) (by kernel_rfl) ?_
 unfold dJ at hF
 refine af (aa (ae .nil wz rfl (ak (af (aa (ae (vI 0) wz rfl (ak (af (af (aa (ae (vL (eL Rect.enc) slices_1) wz rfl (bJ un248 rfl wz (ae (vI 0) wz rfl (ak ?_))))))))))))))
 obtain ⟨o_10,hj_11,hF⟩:=bind_some hF
 obtain ⟨hn_6,hj_11⟩:=bg hj_11
 refine aH (β:=(Int)) (λ(s_7:Int)=>([(0,(vL (eL Rect.enc) slices_1)),(3,(vI s_7))]:SL_)) (λ(s_7:Int)=>([]:Hp)) (λp=>o_10 = .go p) ?_ ?_
 ·refine aG (bv (β:=Nat×(List (List Rect))×(Int)) (λp=>(λ(k_2:Nat) (l_3:List (List Rect)) (s_7:Int)=>([(0,(vL (eL Rect.enc) slices_1)),(3,(vI s_7)),(9,(vL (eL Rect.enc) slices_1)),(10,(vI (slices_1.length:Int))),(11,(vI (k_2:Int)))]:SL_)) p.1 p.2.1 p.2.2) (λp=>(λ(k_2:Nat) (l_3:List (List Rect)) (s_7:Int)=>([]:Hp)) p.1 p.2.1 p.2.2) (λp=>forR (λk x s=>eX k x s) p.2.1 p.1 p.2.2=some o_10/\(slices_1).drop p.1=p.2.1) (λp=>p.2.1.length) (0,slices_1,0) ⟨hj_11,rfl⟩ rfl (aK rfl) ?_)
  rintro ⟨k_2,l_3,s_7⟩ ⟨hL_9,hD_5⟩
  dsimp only at hL_9 hD_5
  cases l_3 with
  | nil =>
   obtain rfl:=aj hL_9
   refine af (aa (ae (vB (decide ((k_2:Int)<(slices_1.length:Int)))) wz rfl (ak ?_)))
   refine af (aA rfl (drop_nil hD_5) (aX ?_))
   exact aS (s_7) rfl rfl (aK rfl)
  | cons x_4 l_3 =>
   obtain ⟨c_,hc_8,hL_9⟩:=bind_some hL_9
   refine af (aa (ae (vB (decide ((k_2:Int)<(slices_1.length:Int)))) wz rfl (ak ?_)))
   refine af (aB rfl (bz hD_5) (av ?_))
   unfold eX at hc_8
   refine af (aG (af (aa (dP JZ rfl rfl (bE hD_5) rfl wz (bO Dm DK rfl (vL Rect.enc x_4) rfl wz (ae (vL Rect.enc x_4) wz rfl (ak (af (aa (ae (vI s_7) wz rfl (ae (vL Rect.enc x_4) wz rfl (bJ rM rfl wz (ae (vI (w64 (s_7+(x_4.length:Int)))) wz rfl (ae (vI (w64 (s_7+(x_4.length:Int)))) wz rfl (ak (af (aa (ae (vI (w64 (s_7+(x_4.length:Int)))) wz rfl (ae (vB (decide ((w64 (s_7+(x_4.length:Int)))<0))) wz rfl (ak ?_))))))))))))))))))))
   obtain ⟨v_12,h_13,hc_8⟩:=bind_some hc_8
   refine aH (β:=Unit) (λ_=>([(0,(vL (eL Rect.enc) slices_1)),(3,(vI (w64 (s_7+(x_4.length:Int))))),(9,(vL (eL Rect.enc) slices_1)),(10,(vI (slices_1.length:Int))),(11,(vI (k_2:Int)))]:SL_)) (λ_=>([]:Hp)) (λ_=>True) ?_ ?_
   ·rcases au h_13 with⟨hc_14,h_13⟩|⟨hc_14,h_13⟩
    ·refine aB rfl hc_14 (aa ?_)
     cases h_13
    ·refine aA rfl hc_14 (av ?_)
     obtain rfl:=aj h_13
     exact cu
   ·rintro ⟨⟩ _ sl_ H_ hp_ hq_
    refine aM _ hp_ hq_ (aa (eQ (bB hD_5 hn_6) wz rfl (ae (vI ((k_2+1:Nat):Int)) wz rfl (ak ?_))))
    obtain rfl:=aj hc_8
    exact aY (k_2+1,l_3,(w64 (s_7+(x_4.length:Int)))) ⟨hL_9,aR hD_5⟩ (ls_ _) rfl (aK rfl)
 ·rintro s_7 ho_ sl_ H_ hp_ hq_
  subst ho_
  refine aM _ hp_ hq_ (af (aa (ae (vI s_7) wz rfl ?_)))
  obtain ⟨b_15,hr_16,hF⟩:=bind_some hF
  refine IB (enc:=Rect.enc) (lK hr_16) rfl hb207 (by kernel_rfl) rfl (by kernel_rfl) wz (λn_17=>ae (kV b_15 n_17 4 ([]:List Rect)) wz rfl (ak (af (af (aa (ae (vL (eL Rect.enc) slices_1) wz rfl (bJ un248 rfl wz (ae (vI 0) wz rfl (ak ?_)))))))))
  obtain ⟨o_28,hj_29,hF⟩:=bind_some hF
  obtain ⟨hn_22,hj_29⟩:=bg hj_29
  refine aH (β:=((List Rect))×Nm) (λp=>(λ(s_23:List Rect) (n_25:Nm)=>([(6,(kV b_15 n_25 4 s_23))]:SL_)) p.1 p.2) (λp=>(λ(s_23:List Rect) (n_25:Nm)=>([(n_25,kB b_15 4 Rect.enc s_23)]:Hp)) p.1 p.2) (λp=>o_28 = .go p.1) ?_ ?_
  ·refine aG (bv (β:=Nat×(List (List Rect))×((List Rect))×Nm) (λp=>(λ(k_18:Nat) (l_19:List (List Rect)) (s_23:List Rect) (n_25:Nm)=>([(6,(kV b_15 n_25 4 s_23)),(25,(vL (eL Rect.enc) slices_1)),(26,(vI (slices_1.length:Int))),(27,(vI (k_18:Int)))]:SL_)) p.1 p.2.1 p.2.2.1 p.2.2.2) (λp=>(λ(k_18:Nat) (l_19:List (List Rect)) (s_23:List Rect) (n_25:Nm)=>([(n_25,kB b_15 4 Rect.enc s_23)]:Hp)) p.1 p.2.1 p.2.2.1 p.2.2.2) (λp=>forR (λk x s=>eZ k x s) p.2.1 p.1 p.2.2.1=some o_28/\(slices_1).drop p.1=p.2.1) (λp=>p.2.1.length) (0,slices_1,([]:List Rect),n_17) ⟨hj_29,rfl⟩ rfl (aK rfl) ?_)
   rintro ⟨k_18,l_19,s_23,n_25⟩ ⟨hL_27,hD_21⟩
   dsimp only at hL_27 hD_21
   cases l_19 with
   | nil =>
    obtain rfl:=aj hL_27
    refine af (aa (ae (vB (decide ((k_18:Int)<(slices_1.length:Int)))) wz rfl (ak ?_)))
    refine af (aA rfl (drop_nil hD_21) (aX ?_))
    exact aS (s_23,n_25) rfl rfl (aK rfl)
   | cons x_20 l_19 =>
    obtain ⟨c_,hc_26,hL_27⟩:=bind_some hL_27
    refine af (aa (ae (vB (decide ((k_18:Int)<(slices_1.length:Int)))) wz rfl (ak ?_)))
    refine af (aB rfl (bz hD_21) (av ?_))
    unfold eZ at hc_26
    refine af (aG (af (aa (dP JZ rfl rfl (bE hD_21) rfl wz (bO Dm DK rfl (vL Rect.enc x_20) rfl wz (ae (vL Rect.enc x_20) wz rfl (ak (aa (ae (kV b_15 n_25 4 s_23) wz rfl (ae (vL Rect.enc x_20) wz rfl ?_))))))))))
    obtain ⟨a_30,hz_31,hc_26⟩:=bind_some hc_26
    refine KL 0 il ft (i:=0) BX BX nY Fv rfl (by decide) JU (by decide) (λ_=>rfl) rfl rfl rfl hz_31 wz (λn_32=>ae (kV b_15 n_32 4 a_30) wz rfl (ak (aa (eQ (bB hD_21 hn_22) wz rfl (ae (vI ((k_18+1:Nat):Int)) wz rfl (ak ?_))))))
    obtain rfl:=aj hc_26
    exact aY (k_18+1,l_19,a_30,n_32) ⟨hL_27,aR hD_21⟩ (ls_ _) rfl (aK rfl)
  ·rintro ⟨s_23,n_25⟩ ho_ sl_ H_ hp_ hq_
   subst ho_
   refine aM _ hp_ hq_ (af (aa (ae (kV b_15 n_25 4 s_23) wz rfl (ae (kV b_15 n_25 4 s_23) wz rfl (ak (Fw 0 rfl (ze 2 0 rfl rfl (ze 6 0 rfl rfl (ze 35 0 rfl rfl ?_)))))))))
   obtain rfl:=aj hF
   exact ay (aO (.inr rfl) [(vL Rect.enc s_23)] ⟨rfl,trivial⟩ rfl rfl rfl)
theorem qA {x r:(List Int)} (hF:gY x=some r) :
  FnM Tryz.prog 124 [(dV (aJ 0) 1 x)] (([]:List Box)++gI 1 eI x) (.tup []) (([]:List Box).map some++gT x (gB 1 eI r)) :=
 Ls Tryz.slices_Sort_int Tryz.slices_Sort_int_none hF
theorem oF {s_1:(List Int)} {r:(List Int)} (hF:dW s_1=some r) :
  FnM Tryz.prog 125 [(dV (aJ 0) 1 s_1)] (([]:List Box)++gI 1 eI s_1) (vL eI r) (([]:List Box).map some++gT s_1 none):=by
 refine FnM.of_wHv ⟨Tryz.prog,61,[],[]⟩ rfl Tryz.func125 rfl rfl (lb_ rfl) (by kernel_rfl) ?_
 unfold dW at hF
 refine af (aa (ae .nil wz rfl (ak (af (af (aa (ae (dV (aJ 0) 1 s_1) wz rfl (GD qi rfl wz (ae (vB (decide ((s_1.length:Int)<2))) wz rfl (ak ?_))))))))))
 rcases au hF with⟨hc_2,hF⟩|⟨hc_2,hF⟩
 ·refine aB rfl hc_2 (af (aa (ae (dV (aJ 0) 1 s_1) wz rfl (ae (dV (aJ 0) 1 s_1) wz rfl (ak (fB 0 rfl (xh 0 0 rfl rfl (xh 2 0 rfl rfl (xh 6 0 rfl rfl (xh 9 0 rfl rfl (ET (i:=0) rfl ?_)))))))))))
  obtain rfl:=aj hF
  exact ay (H8 (bs:=([]:List Box)) (os:=([]:List Box)) (xs:=s_1) (o:=none) (.inr rfl) [(vL eI s_1)] ⟨rfl,trivial⟩ rfl rfl rfl rfl rfl (by kernel_rfl) AL rfl)
 ·refine aA rfl hc_2 (av (af (af (aa (ae (vI 1) wz rfl (ak ?_))))))
  obtain ⟨o_11,hj_12,hF⟩:=bind_some hF
  obtain ⟨nq_52,hj_12⟩:=d9 hj_12
  refine aH (β:=(Int)) (λ(s_8:Int)=>([(0,(dV (aJ 0) 1 s_1))]:SL_)) (λ(s_8:Int)=>([((aJ 0),gB 1 eI s_1)]:Hp)) (λp=>o_11 = .go p) ?_ ?_
  ·refine aG (bv (β:=Nat×(Int)) (λp=>(λ(k_3:Nat) (s_8:Int)=>([(0,(dV (aJ 0) 1 s_1)),(3,(vI s_8))]:SL_)) p.1 p.2) (λp=>(λ(k_3:Nat) (s_8:Int)=>([((aJ 0),gB 1 eI s_1)]:Hp)) p.1 p.2) (λp=>iterN (λs=>dB s_1 s) p.1 p.2=some o_11) (λp=>p.1) (nq_52,1) hj_12 rfl (aK rfl) ?_)
   rintro ⟨k_3,s_8⟩ hL_10
   dsimp only at hL_10
   cases k_3 with
   | zero=>cases hL_10
   | succ k_3 =>
    obtain ⟨c_,hc_9,hL_10⟩:=bind_some hL_10
    unfold dB at hc_9
    refine af (af (aa (ae (vI s_8) wz rfl (ae (dV (aJ 0) 1 s_1) wz rfl (GD qi rfl wz (ae (vB (decide (s_8<(s_1.length:Int)))) wz rfl (ak ?_)))))))
    rcases au hc_9 with⟨hc_13,hc_9⟩|⟨hc_13,hc_9⟩
    ·refine aB rfl hc_13 (av (af (aG (af (bG (ae (dV (aJ 0) 1 s_1) wz rfl (ae (vI s_8) wz rfl ?_)))))))
     obtain ⟨_,hi_14,hc_9⟩:=bind_some hc_9
     refine uZ kE rfl rfl (qC hi_14) (mo hi_14) wz ?_
     obtain ⟨e_15,hy_16,hc_9⟩:=bind_some hc_9
     refine uf 3 0 (.inr (by kernel_rfl)) (λ_ _ ag=>trivial) sz3 ag3 rfl rfl hy_16 (vI e_15) rfl wz (ae (dV (aJ 0) 1 s_1) wz rfl (ae (vI s_8) wz rfl (ae (vI (w64 (s_8-1))) wz rfl ?_)))
     obtain ⟨_,hi_17,hc_9⟩:=bind_some hc_9
     refine uZ kE rfl rfl (qC hi_17) (mo hi_17) wz ?_
     obtain ⟨e_18,hy_19,hc_9⟩:=bind_some hc_9
     refine uf 8 0 (.inr (by kernel_rfl)) (λ_ _ ag=>⟨.inl ⟨rfl,rfl⟩,trivial⟩) sz3 ag3 rfl rfl hy_19 (vI e_18) rfl wz (ae (vB (e_15==e_18)) wz rfl (ak ?_))
     rcases au hc_9 with⟨hc_20,hc_9⟩|⟨hc_20,hc_9⟩
     ·refine aB rfl hc_20 (af (aa (ae (dV (aJ 0) 1 s_1) wz rfl (ae (vI s_8) wz rfl ?_))))
      obtain ⟨_,hn_21,hc_9⟩:=bind_some hc_9
      replace hn_21:=neL_ne hn_21
      refine kG (v':=(vV (aJ 0) 1 s_1)) 0 rfl (ym hn_21) (kG (v':=(vV (aJ 0) 1 s_1)) 11 rfl (ym hn_21) (kG (v':=(vV (aJ 0) 1 s_1)) 16 rfl (ym hn_21) (kG (v':=(vV (aJ 0) 1 s_1)) 20 rfl (ym hn_21) (kG (v':=(vV (aJ 0) 1 s_1)) 26 rfl (ym hn_21) (JP 0 rfl (gB_cons hn_21) ?_)))))
      obtain ⟨_,hr_22,hc_9⟩:=bind_some hc_9
      refine FB qi sz3 rfl rfl hr_22 wz (ae (.vs (aJ 0) 1 ((s_8).toNat) (((s_1.length:Int)).toNat-(s_8).toNat)) wz rfl (ak (af (af (aa (ae (vI 1) wz rfl (ak ?_)))))))
      obtain ⟨o_31,hj_32,hc_9⟩:=bind_some hc_9
      obtain ⟨nq_51,hj_32⟩:=d9 hj_32
      refine aH (β:=((List Int)×Int×Int)) (λ(s_28:(List Int)×Int×Int)=>([(0,(vV (aJ 0) 1 s_28.1)),(3,(vI s_28.2.1))]:SL_)) (λ(s_28:(List Int)×Int×Int)=>([((aJ 0),some (bV 1 eI s_28.1))]:Hp)) (λp=>o_31 = .go p) ?_ ?_
      ·refine aG (bv (β:=Nat×((List Int)×Int×Int)) (λp=>(λ(k_23:Nat) (s_28:(List Int)×Int×Int)=>([(0,(vV (aJ 0) 1 s_28.1)),(3,(vI s_28.2.1)),(4,(.vs (aJ 0) 1 ((s_8).toNat) (((s_1.length:Int)).toNat-(s_8).toNat))),(5,(vI s_28.2.2))]:SL_)) p.1 p.2) (λp=>(λ(k_23:Nat) (s_28:(List Int)×Int×Int)=>([((aJ 0),some (bV 1 eI s_28.1))]:Hp)) p.1 p.2) (λp=>iterN (λs=>eP s_1 s_8 s) p.1 p.2=some o_31) (λp=>p.1) (nq_51,(s_1,s_8,1)) hj_32 rfl (aK rfl) ?_)
       rintro ⟨k_23,s_28⟩ hL_30
       dsimp only at hL_30
       cases k_23 with
       | zero=>cases hL_30
       | succ k_23 =>
        obtain ⟨c_,hc_29,hL_30⟩:=bind_some hL_30
        unfold eP at hc_29
        refine af (af (aa (ae (vI s_28.2.2) wz rfl (ae (.vs (aJ 0) 1 ((s_8).toNat) (((s_1.length:Int)).toNat-(s_8).toNat)) wz rfl (h_lenp qi rfl wz (ae (vB (decide (s_28.2.2<(((((s_1.length:Int)).toNat-(s_8).toNat):Nat):Int)))) wz rfl (ak ?_)))))))
        rcases au hc_29 with⟨hc_33,hc_29⟩|⟨hc_33,hc_29⟩
        ·refine aB rfl hc_33 (av (af (aG (af (bG (ae (.vs (aJ 0) 1 ((s_8).toNat) (((s_1.length:Int)).toNat-(s_8).toNat)) wz rfl (ae (vI s_28.2.2) wz rfl ?_)))))))
         obtain ⟨_,hi_34,hc_29⟩:=bind_some hc_29
         refine Dl kE rfl rfl (JX hi_34) (Hu hi_34) wz ?_
         obtain ⟨e_35,hy_36,hc_29⟩:=bind_some hc_29
         refine Jc 3 0 (.inr (by kernel_rfl)) (λ_ _ ag=>trivial) sz3 ag3 rfl rfl hy_36 (vI e_35) rfl wz (ae (.vs (aJ 0) 1 ((s_8).toNat) (((s_1.length:Int)).toNat-(s_8).toNat)) wz rfl (ae (vI s_28.2.2) wz rfl (ae (vI (w64 (s_28.2.2-1))) wz rfl ?_)))
         obtain ⟨_,hi_37,hc_29⟩:=bind_some hc_29
         refine Dl kE rfl rfl (JX hi_37) (Hu hi_37) wz ?_
         obtain ⟨e_38,hy_39,hc_29⟩:=bind_some hc_29
         refine Jc 8 0 (.inr (by kernel_rfl)) (λ_ _ ag=>⟨.inl ⟨rfl,rfl⟩,trivial⟩) sz3 ag3 rfl rfl hy_39 (vI e_38) rfl wz (ae (vB (e_35 != e_38)) wz rfl (ak ?_))
         obtain ⟨v_40,h_41,hc_29⟩:=bind_some hc_29
         refine aH (β:=Unit) (λ_=>([(0,(vV (aJ 0) 1 v_40.1)),(3,(vI v_40.2)),(4,(.vs (aJ 0) 1 ((s_8).toNat) (((s_1.length:Int)).toNat-(s_8).toNat))),(5,(vI s_28.2.2))]:SL_)) (λ_=>([((aJ 0),some (bV 1 eI v_40.1))]:Hp)) (λ_=>True) ?_ ?_
         ·rcases au h_41 with⟨hc_42,h_41⟩|⟨hc_42,h_41⟩
          ·refine aB rfl hc_42 (af (aa (ae (vV (aJ 0) 1 s_28.1) wz rfl (ae (vI s_28.2.1) wz rfl (ae (.vs (aJ 0) 1 ((s_8).toNat) (((s_1.length:Int)).toNat-(s_8).toNat)) wz rfl (ae (vI s_28.2.2) wz rfl ?_))))))
           obtain ⟨_,hi_43,h_41⟩:=bind_some h_41
           refine Dl kE rfl rfl (JX hi_43) (Hu hi_43) wz ?_
           obtain ⟨e_44,hy_45,h_41⟩:=bind_some h_41
           refine Jc 0 0 il ft sz3 ag3 rfl rfl hy_45 (vI e_44) rfl wz ?_
           obtain ⟨_,hi_46,h_41⟩:=bind_some h_41
           refine Dl kE rfl rfl (qC hi_46) (mo hi_46) wz ?_
           obtain ⟨e_47,hy_48,h_41⟩:=bind_some h_41
           refine h_stv 0 il ft 0 sz3 rfl rfl hy_48 e_44 rfl wz (kG (v':=(vV (aJ 0) 1 (s_28.1.set (0+(s_28.2.1).toNat) e_44))) 0 rfl (E5 (by simp)) (kG (v':=(vV (aJ 0) 1 (s_28.1.set (0+(s_28.2.1).toNat) e_44))) 45 rfl (E5 (by simp)) (ak (aa (ae (vI s_28.2.1) wz rfl (ae (vI (w64 (s_28.2.1+1))) wz rfl (ae (vI (w64 (s_28.2.1+1))) wz rfl (ak ?_))))))))
           obtain rfl:=aj h_41
           exact cu
          ·refine aA rfl hc_42 (av ?_)
           obtain rfl:=aj h_41
           exact cu
         ·rintro ⟨⟩ _ sl_ H_ hp_ hq_
          refine aM _ hp_ hq_ (aa (ae (vI s_28.2.2) wz rfl (ae (vI (w64 (s_28.2.2+1))) wz rfl (ae (vI (w64 (s_28.2.2+1))) wz rfl (ak ?_)))))
          obtain rfl:=aj hc_29
          exact aY (k_23,(v_40.1,v_40.2,(w64 (s_28.2.2+1)))) hL_30 (ls_ _) rfl (aK rfl)
        ·refine aA rfl hc_33 (aX ?_)
         obtain rfl:=aj hc_29
         obtain rfl:=aj hL_30
         exact aS ((s_28.1,s_28.2.1,s_28.2.2)) rfl rfl (aK rfl)
      ·rintro s_28 ho_ sl_ H_ hp_ hq_
       subst ho_
       refine aM _ hp_ hq_ (af (aa (ae (vV (aJ 0) 1 s_28.1) wz rfl (ae (vI s_28.2.1) wz rfl ?_))))
       obtain ⟨_,hr_49,hc_9⟩:=bind_some hc_9
       refine FB qi sz3 rfl rfl hr_49 wz (h_clear (i:=0) 0 il ft 0 GG sz3 z3 rfl rfl rfl (by decide) rfl (yw hr_49) rfl wz (kG (v':=(vV (aJ 0) 1 (s_28.1.take ((s_28.2.1).toNat)++List.replicate (((s_28.1.length:Int)).toNat-(s_28.2.1).toNat) 0++s_28.1.drop (((s_28.2.1).toNat)+(((s_28.1.length:Int)).toNat-(s_28.2.1).toNat))))) 0 rfl (E5 (Dy (yw hr_49))) (kG (v':=(vV (aJ 0) 1 (s_28.1.take ((s_28.2.1).toNat)++List.replicate (((s_28.1.length:Int)).toNat-(s_28.2.1).toNat) 0++s_28.1.drop (((s_28.2.1).toNat)+(((s_28.1.length:Int)).toNat-(s_28.2.1).toNat))))) 54 rfl (E5 (Dy (yw hr_49))) (ak (af (aa (ae (vV (aJ 0) 1 (s_28.1.take ((s_28.2.1).toNat)++List.replicate (((s_28.1.length:Int)).toNat-(s_28.2.1).toNat) 0++s_28.1.drop (((s_28.2.1).toNat)+(((s_28.1.length:Int)).toNat-(s_28.2.1).toNat)))) wz rfl (ae (vI s_28.2.1) wz rfl ?_))))))))
       obtain ⟨_,hr_50,hc_9⟩:=bind_some hc_9
       refine Km qi sz3 rfl rfl hr_50 wz (ae (.vs (aJ 0) 1 0 ((s_28.2.1).toNat)) wz rfl (ak (EX 0 rfl (Dp 0 0 rfl rfl (Lp 2 0 rfl rfl (yw hr_50) (Dp 54 0 rfl rfl (Dp 57 0 rfl rfl (Lp 59 0 rfl rfl (yw hr_50) (ET (i:=0) rfl ?_)))))))))
       obtain rfl:=aj hc_9
       obtain rfl:=aj hL_10
       obtain rfl:=aj hF
       exact ay (H8 (bs:=([]:List Box)) (os:=([]:List Box)) (xs:=s_1) (o:=none) (.inr rfl) [(vL eI (cutL (s_28.1.take ((s_28.2.1).toNat)++List.replicate (((s_28.1.length:Int)).toNat-(s_28.2.1).toNat) 0++s_28.1.drop (((s_28.2.1).toNat)+(((s_28.1.length:Int)).toNat-(s_28.2.1).toNat))) 0 ((s_28.2.1).toNat)))] ⟨rfl,trivial⟩ rfl rfl rfl rfl rfl (by kernel_rfl) AL rfl)
     ·refine aA rfl hc_20 (av (aa (ae (vI s_8) wz rfl (ae (vI (w64 (s_8+1))) wz rfl (ae (vI (w64 (s_8+1))) wz rfl (ak ?_))))))
      obtain rfl:=aj hc_9
      exact aY (k_3,(w64 (s_8+1))) hL_10 (ls_ _) rfl (aK rfl)
    ·refine aA rfl hc_13 (aX ?_)
     obtain rfl:=aj hc_9
     obtain rfl:=aj hL_10
     exact aS (s_8) rfl rfl (aK rfl)
  ·rintro s_8 ho_ sl_ H_ hp_ hq_
   subst ho_
   refine aM _ hp_ hq_ (af (aa (ae (dV (aJ 0) 1 s_1) wz rfl (ae (dV (aJ 0) 1 s_1) wz rfl (ak (fB 0 rfl (xh 0 0 rfl rfl (xh 2 0 rfl rfl (xh 60 0 rfl rfl (ET (i:=0) rfl ?_))))))))))
   obtain rfl:=aj hF
   exact ay (H8 (bs:=([]:List Box)) (os:=([]:List Box)) (xs:=s_1) (o:=none) (.inr rfl) [(vL eI s_1)] ⟨rfl,trivial⟩ rfl rfl rfl rfl rfl (by kernel_rfl) AL rfl)
theorem zt {a_1:Run} {b_2:Run} {r:Int} (hF:qX a_1 b_2=some r) :
  FnM Tryz.prog 209 [(.d (.agg (Run.enc a_1))),(.d (.agg (Run.enc b_2)))] [] (vI r) []:=by
 refine FnM.of_wH ⟨Tryz.prog,10,[],[]⟩ rfl Tryz.func209 rfl rfl (lb_ rfl) (by kernel_rfl) ?_
 unfold qX at hF
 refine af (aa (gH 0 (.inl rfl) [(vI a_1.f_from),(vI a_1.f_to)] rfl rfl wz (λn_3=>gH 0 (.inl rfl) [(vI b_2.f_from),(vI b_2.f_to)] rfl rfl wz (λn_4=>ae (vI 0) wz rfl (ak (af (aa (aF jQ rfl 0 rfl wz (aC 0 0 il ft sz3 ag3 rfl rfl (vI a_1.f_from) rfl wz (aF jQ rfl 0 rfl wz (aC 0 1 il ft sz3 ag3 rfl rfl (vI b_2.f_from) rfl wz (ae (vI (w64 (a_1.f_from-b_2.f_from))) wz rfl (ae (vI (w64 (a_1.f_from-b_2.f_from))) wz rfl (ak ?_))))))))))))))
 obtain rfl:=aj hF
 exact ay (aO (.inr rfl) [(vI (w64 (a_1.f_from-b_2.f_from)))] ⟨rfl,trivial⟩ rfl rfl rfl)
theorem wQ {x_1:Int} {r:Int} (hF:oO x_1=some r) :
  FnM Tryz.prog 147 [(.d (.int .u64 x_1))] [] (vI r) []:=by
 refine FnM.of_wH ⟨Tryz.prog,25,[],[]⟩ rfl Tryz.func147 rfl rfl (lb_ rfl) (by kernel_rfl) ?_
 unfold oO at hF
 refine af (aa (ae (vI 0) wz rfl (ak (af (af (aa (ae (.d (.int .u64 x_1)) wz rfl (ae (vB (decide (x_1>=4294967296))) wz rfl (ak ?_)))))))))
 obtain ⟨v_2,h_3,hF⟩:=bind_some hF
 refine aH (β:=Unit) (λ_=>([(0,(.d (.int .u64 v_2.1))),(2,(vI v_2.2))]:SL_)) (λ_=>([]:Hp)) (λ_=>True) ?_ ?_
 ·rcases au h_3 with⟨hc_4,h_3⟩|⟨hc_4,h_3⟩
  ·refine aB rfl hc_4 (af (aa (ae (.d (.int .u64 x_1)) wz rfl ?_)))
   obtain ⟨q_5,hz_6,h_3⟩:=bind_some h_3
   refine I4 rfl rfl hz_6 wz (ae (.d (.int .u64 q_5)) wz rfl (ak (aa (ae (vI 32) wz rfl (ak ?_)))))
   obtain rfl:=aj h_3
   exact cu
  ·refine aA rfl hc_4 (av ?_)
   obtain rfl:=aj h_3
   exact cu
 ·rintro ⟨⟩ _ sl_ H_ hp_ hq_
  refine aM _ hp_ hq_ (af (af (aa (ae (.d (.int .u64 v_2.1)) wz rfl (ae (vB (decide (v_2.1>=65536))) wz rfl (ak ?_))))))
  obtain ⟨v_7,h_8,hF⟩:=bind_some hF
  refine aH (β:=Unit) (λ_=>([(0,(.d (.int .u64 v_7.1))),(2,(vI v_7.2))]:SL_)) (λ_=>([]:Hp)) (λ_=>True) ?_ ?_
  ·rcases au h_8 with⟨hc_9,h_8⟩|⟨hc_9,h_8⟩
   ·refine aB rfl hc_9 (af (aa (ae (.d (.int .u64 v_2.1)) wz rfl ?_)))
    obtain ⟨q_10,hz_11,h_8⟩:=bind_some h_8
    refine I4 rfl rfl hz_11 wz (ae (.d (.int .u64 q_10)) wz rfl (ak (aa (ae (vI v_2.2) wz rfl (ae (vI (w64 (v_2.2+16))) wz rfl (ae (vI (w64 (v_2.2+16))) wz rfl (ak ?_)))))))
    obtain rfl:=aj h_8
    exact cu
   ·refine aA rfl hc_9 (av ?_)
    obtain rfl:=aj h_8
    exact cu
  ·rintro ⟨⟩ _ sl_ H_ hp_ hq_
   refine aM _ hp_ hq_ (af (af (aa (ae (.d (.int .u64 v_7.1)) wz rfl (ae (vB (decide (v_7.1>=256))) wz rfl (ak ?_))))))
   obtain ⟨v_12,h_13,hF⟩:=bind_some hF
   refine aH (β:=Unit) (λ_=>([(0,(.d (.int .u64 v_12.1))),(2,(vI v_12.2))]:SL_)) (λ_=>([]:Hp)) (λ_=>True) ?_ ?_
   ·rcases au h_13 with⟨hc_14,h_13⟩|⟨hc_14,h_13⟩
    ·refine aB rfl hc_14 (af (aa (ae (.d (.int .u64 v_7.1)) wz rfl ?_)))
     obtain ⟨q_15,hz_16,h_13⟩:=bind_some h_13
     refine I4 rfl rfl hz_16 wz (ae (.d (.int .u64 q_15)) wz rfl (ak (aa (ae (vI v_7.2) wz rfl (ae (vI (w64 (v_7.2+8))) wz rfl (ae (vI (w64 (v_7.2+8))) wz rfl (ak ?_)))))))
     obtain rfl:=aj h_13
     exact cu
    ·refine aA rfl hc_14 (av ?_)
     obtain rfl:=aj h_13
     exact cu
   ·rintro ⟨⟩ _ sl_ H_ hp_ hq_
    refine aM _ hp_ hq_ (af (aa (ae (vI v_12.2) wz rfl (ae (.d (.int .u64 v_12.1)) wz rfl (nk xP un5 rfl wz ?_)))))
    obtain ⟨b_17,hy_18,hF⟩:=bind_some hF
    refine jm un9 rfl rfl hy_18 wz (nk un5 un3 rfl wz (ae (vI (w64 (v_12.2+(w64 (b_17.toNat:Int))))) wz rfl (ae (vI (w64 (v_12.2+(w64 (b_17.toNat:Int))))) wz rfl (ak ?_))))
    obtain rfl:=aj hF
    exact ay (aO (.inr rfl) [(vI (w64 (v_12.2+(w64 (b_17.toNat:Int)))))] ⟨rfl,trivial⟩ rfl rfl rfl)
theorem zh {x_1:Int} {r:Int} (hF:nN x_1=some r) :
  FnM Tryz.prog 96 [(.d (.int .u64 x_1))] [] (vI r) []:=by
 refine FnM.of_wH ⟨Tryz.prog,8,[],[]⟩ rfl Tryz.func96 rfl rfl (lb_ rfl) (by kernel_rfl) ?_
 unfold nN at hF
 refine af (aa (ae (vI 0) wz rfl (ak (af (aA rfl rfl (av (af (aa (ae (.d (.int .u64 x_1)) wz rfl ?_)))))))))
 obtain ⟨r_2,hr_3,hF⟩:=bind_some hF
 refine aD (wQ hr_3) rfl hb147 rfl rfl rfl rfl wz (ae (vI r_2) wz rfl (ak ?_))
 obtain rfl:=aj hF
 exact ay (aO (.inr rfl) [(vI r_2)] ⟨rfl,trivial⟩ rfl rfl rfl)
theorem iU {data_1:(List Run)} {a_2:Int} {b_3:Int} {r:(List Run)} (hF:bD data_1 a_2 b_3=some r) :
  FnM Tryz.prog 265 [(dV (aJ 0) 2 data_1),(vI a_2),(vI b_3),(.fn 209 [])] (([]:List Box)++gI 2 Run.enc data_1) (.tup []) (([]:List Box).map some++gT data_1 (gB 2 Run.enc r)):=by
 refine FnM.of_wHv ⟨Tryz.prog,53,[],[]⟩ rfl Tryz.func265 rfl rfl (lb_ rfl) (by kernel_rfl) ?_
 unfold bD at hF
 refine af (aa (ae (vI a_2) wz rfl (ae (vI (w64 (a_2+1))) wz rfl (ae (vI (w64 (a_2+1))) wz rfl (ak ?_)))))
 obtain ⟨o_13,hj_14,hF⟩:=bind_some hF
 obtain ⟨nq_51,hj_14⟩:=d9 hj_14
 refine aH (β:=((List Run)×Int)) (λ(s_10:(List Run)×Int)=>([]:SL_)) (λ(s_10:(List Run)×Int)=>([((aJ 0),gB 2 Run.enc s_10.1)]:Hp)) (λp=>o_13 = .go p) ?_ ?_
 ·refine aG (bv (β:=Nat×((List Run)×Int)) (λp=>(λ(k_5:Nat) (s_10:(List Run)×Int)=>([(0,(dV (aJ 0) 2 s_10.1)),(1,(vI a_2)),(2,(vI b_3)),(3,(.fn 209 [])),(8,(vI s_10.2))]:SL_)) p.1 p.2) (λp=>(λ(k_5:Nat) (s_10:(List Run)×Int)=>([((aJ 0),gB 2 Run.enc s_10.1)]:Hp)) p.1 p.2) (λp=>iterN (λs=>bA b_3 a_2 s) p.1 p.2=some o_13) (λp=>p.1) (nq_51,(data_1,(w64 (a_2+1)))) hj_14 rfl (aK rfl) ?_)
  rintro ⟨k_5,s_10⟩ hL_12
  dsimp only at hL_12
  cases k_5 with
  | zero=>cases hL_12
  | succ k_5 =>
   obtain ⟨c_,hc_11,hL_12⟩:=bind_some hL_12
   unfold bA at hc_11
   refine af (af (aa (ae (vI s_10.2) wz rfl (ae (vI b_3) wz rfl (ae (vB (decide (s_10.2<b_3))) wz rfl (ak ?_))))))
   rcases au hc_11 with⟨hc_15,hc_11⟩|⟨hc_15,hc_11⟩
   ·refine aB rfl hc_15 (av (af (aG (af (aa (ae (vI s_10.2) wz rfl (ae (vI s_10.2) wz rfl (ak ?_))))))))
    obtain ⟨o_24,hj_25,hc_11⟩:=bind_some hc_11
    obtain ⟨nq_50,hj_25⟩:=d9 hj_25
    refine aH (β:=((List Run)×Int)) (λ(s_21:(List Run)×Int)=>([(0,(dV (aJ 0) 2 s_21.1)),(1,(vI a_2)),(2,(vI b_3)),(3,(.fn 209 [])),(8,(vI s_10.2))]:SL_)) (λ(s_21:(List Run)×Int)=>([((aJ 0),gB 2 Run.enc s_21.1)]:Hp)) (λp=>o_24 = .go p) ?_ ?_
    ·refine aG (bv (β:=Nat×((List Run)×Int)) (λp=>(λ(k_16:Nat) (s_21:(List Run)×Int)=>([(0,(dV (aJ 0) 2 s_21.1)),(1,(vI a_2)),(2,(vI b_3)),(3,(.fn 209 [])),(8,(vI s_10.2)),(9,(vI s_21.2))]:SL_)) p.1 p.2) (λp=>(λ(k_16:Nat) (s_21:(List Run)×Int)=>([((aJ 0),gB 2 Run.enc s_21.1)]:Hp)) p.1 p.2) (λp=>iterN (λs=>bQ a_2 s) p.1 p.2=some o_24) (λp=>p.1) (nq_50,(s_10.1,s_10.2)) hj_25 rfl (aK rfl) ?_)
     rintro ⟨k_16,s_21⟩ hL_23
     dsimp only at hL_23
     cases k_16 with
     | zero=>cases hL_23
     | succ k_16 =>
      obtain ⟨c_,hc_22,hL_23⟩:=bind_some hL_23
      unfold bQ at hc_22
      refine af (af ?_)
      obtain ⟨v_26,h_27,hc_22⟩:=bind_some hc_22
      refine aH (β:=Unit) (λ_=>([(0,(dV (aJ 0) 2 s_21.1)),(1,(vI a_2)),(2,(vI b_3)),(3,(.fn 209 [])),(8,(vI s_10.2)),(9,(vI s_21.2)),(34,(vB v_26))]:SL_)) (λ_=>([((aJ 0),gB 2 Run.enc s_21.1)]:Hp)) (λ_=>True) ?_ ?_
      ·refine bG (ae (vI s_21.2) wz rfl (ae (vI a_2) wz rfl (ae (vB (decide (s_21.2>a_2))) wz rfl ?_)))
       rcases au h_27 with⟨hc_28,h_27⟩|⟨hc_28,h_27⟩
       ·refine ax rfl hc_28 wz (ae (.fn 209 []) wa rfl (ae (dV (aJ 0) 2 s_21.1) wa rfl (ae (vI s_21.2) wa rfl ?_)))
        obtain ⟨_,hi_29,h_27⟩:=bind_some h_27
        refine uZ jS rfl rfl (qC hi_29) (mo hi_29) wa ?_
        obtain ⟨e_30,hy_31,h_27⟩:=bind_some h_27
        refine uf 8 0 (.inr (by kernel_rfl)) (λ_ _ ag=>trivial) lW uJ rfl rfl hy_31 (.d (.agg (Run.enc e_30))) rfl wa (ae (dV (aJ 0) 2 s_21.1) wa rfl (ae (vI s_21.2) wa rfl (ae (vI (w64 (s_21.2-1))) wa rfl ?_)))
        obtain ⟨_,hi_32,h_27⟩:=bind_some h_27
        refine uZ jS rfl rfl (qC hi_32) (mo hi_32) wa ?_
        obtain ⟨e_33,hy_34,h_27⟩:=bind_some h_27
        refine uf 13 0 (.inr (by kernel_rfl)) (λ_ _ ag=>⟨.inl ⟨rfl,rfl⟩,trivial⟩) lW uJ rfl rfl hy_34 (.d (.agg (Run.enc e_33))) rfl wa ?_
        obtain ⟨r_35,hr_36,h_27⟩:=bind_some h_27
        refine aD (zt hr_36) rfl hb209 rfl rfl rfl rfl wa (ae (vB (decide (r_35<0))) wa rfl (ae (vB (decide (r_35<0))) wz rfl (ak ?_)))
        obtain rfl:=aj h_27
        exact cu
       ·refine ax rfl hc_28 wz (ah wa (ah wa (ah wa (ah wa (ah wa (ah wa (ah wa (ah wa (ah wa (ah wa (ah wa (ah wa (ae (vB false) wz rfl (ak ?_))))))))))))))
        obtain rfl:=aj h_27
        exact cu
      ·rintro ⟨⟩ _ sl_ H_ hp_ hq_
       refine aM _ hp_ hq_ ?_
       rcases au hc_22 with⟨hc_37,hc_22⟩|⟨hc_37,hc_22⟩
       ·refine aB rfl hc_37 (av (af (aG (bG (ae (dV (aJ 0) 2 s_21.1) wz rfl (ae (vI s_21.2) wz rfl (ae (dV (aJ 0) 2 s_21.1) wz rfl (ae (vI s_21.2) wz rfl (ae (vI (w64 (s_21.2-1))) wz rfl (ae (dV (aJ 0) 2 s_21.1) wz rfl (ae (vI s_21.2) wz rfl (ae (vI (w64 (s_21.2-1))) wz rfl ?_))))))))))))
        obtain ⟨_,hi_38,hc_22⟩:=bind_some hc_22
        refine uZ jS rfl rfl (qC hi_38) (mo hi_38) wz ?_
        obtain ⟨e_39,hy_40,hc_22⟩:=bind_some hc_22
        refine uf 9 0 (.inr (by kernel_rfl)) (λ_ _ ag=>trivial) lW uJ rfl rfl hy_40 (.d (.agg (Run.enc e_39))) rfl wz (ae (dV (aJ 0) 2 s_21.1) wz rfl (ae (vI s_21.2) wz rfl ?_))
        obtain ⟨_,hi_41,hc_22⟩:=bind_some hc_22
        refine uZ jS rfl rfl (qC hi_41) (mo hi_41) wz ?_
        obtain ⟨e_42,hy_43,hc_22⟩:=bind_some hc_22
        refine uf 13 0 (.inr (by kernel_rfl)) (λ_ _ ag=>⟨.inl ⟨rfl,rfl⟩,trivial⟩) lW uJ rfl rfl hy_43 (.d (.agg (Run.enc e_42))) rfl wz ?_
        obtain ⟨_,hi_44,hc_22⟩:=bind_some hc_22
        refine uZ jS rfl rfl (qC hi_44) (mo hi_44) wz ?_
        obtain ⟨e_45,hy_46,hc_22⟩:=bind_some hc_22
        refine EF 15 (.inr (by kernel_rfl)) (λ_ _ ag=>⟨.inr (.inr (by kernel_rfl)),⟨.inr (.inr (by kernel_rfl)),trivial⟩⟩) 0 lW rfl rfl hy_46 e_39 rfl wz (kG (v':=(dV (aJ 0) 2 (s_21.1.set (0+(s_21.2).toNat) e_39))) 0 rfl (lU (by simp)) (kG (v':=(dV (aJ 0) 2 (s_21.1.set (0+(s_21.2).toNat) e_39))) 37 rfl (lU (by simp)) (kG (v':=(dV (aJ 0) 2 (s_21.1.set (0+(s_21.2).toNat) e_39))) 39 rfl (lU (by simp)) (kG (v':=(dV (aJ 0) 2 (s_21.1.set (0+(s_21.2).toNat) e_39))) 42 rfl (lU (by simp)) (kG (v':=(dV (aJ 0) 2 (s_21.1.set (0+(s_21.2).toNat) e_39))) 47 rfl (lU (by simp)) ?_)))))
        obtain ⟨_,hi_47,hc_22⟩:=bind_some hc_22
        refine uZ jS rfl rfl (qC hi_47) (mo hi_47) wz ?_
        obtain ⟨e_48,hy_49,hc_22⟩:=bind_some hc_22
        refine EF 17 (.inr (by kernel_rfl)) (λ_ _ ag=>⟨.inr (.inr (by kernel_rfl)),⟨.inr (.inr (by kernel_rfl)),⟨.inr (.inr (by kernel_rfl)),trivial⟩⟩⟩) 0 lW rfl rfl hy_49 e_42 rfl wz (kG (v':=(dV (aJ 0) 2 ((s_21.1.set (0+(s_21.2).toNat) e_39).set (0+((w64 (s_21.2-1))).toNat) e_42))) 0 rfl (lU (by simp)) (kG (v':=(dV (aJ 0) 2 ((s_21.1.set (0+(s_21.2).toNat) e_39).set (0+((w64 (s_21.2-1))).toNat) e_42))) 37 rfl (lU (by simp)) (kG (v':=(dV (aJ 0) 2 ((s_21.1.set (0+(s_21.2).toNat) e_39).set (0+((w64 (s_21.2-1))).toNat) e_42))) 39 rfl (lU (by simp)) (kG (v':=(dV (aJ 0) 2 ((s_21.1.set (0+(s_21.2).toNat) e_39).set (0+((w64 (s_21.2-1))).toNat) e_42))) 42 rfl (lU (by simp)) (kG (v':=(dV (aJ 0) 2 ((s_21.1.set (0+(s_21.2).toNat) e_39).set (0+((w64 (s_21.2-1))).toNat) e_42))) 47 rfl (lU (by simp)) (ak (aa (ae (vI s_21.2) wz rfl (ae (vI (w64 (s_21.2-1))) wz rfl (ae (vI (w64 (s_21.2-1))) wz rfl (ak ?_)))))))))))
        obtain rfl:=aj hc_22
        exact aY (k_16,(((s_21.1.set (0+(s_21.2).toNat) e_39).set (0+((w64 (s_21.2-1))).toNat) e_42),(w64 (s_21.2-1)))) hL_23 (ls_ _) rfl (aK rfl)
       ·refine aA rfl hc_37 (aX ?_)
        obtain rfl:=aj hc_22
        obtain rfl:=aj hL_23
        exact aS ((s_21.1,s_21.2)) rfl rfl (aK rfl)
    ·rintro s_21 ho_ sl_ H_ hp_ hq_
     subst ho_
     refine aM _ hp_ hq_ (aa (ae (vI s_10.2) wz rfl (ae (vI (w64 (s_10.2+1))) wz rfl (ae (vI (w64 (s_10.2+1))) wz rfl (ak ?_)))))
     obtain rfl:=aj hc_11
     exact aY (k_5,(s_21.1,(w64 (s_10.2+1)))) hL_12 (ls_ _) rfl (aK rfl)
   ·refine aA rfl hc_15 (aX ?_)
    obtain rfl:=aj hc_11
    obtain rfl:=aj hL_12
    exact aS ((s_10.1,s_10.2)) rfl rfl (aK rfl)
 ·rintro s_10 ho_ sl_ H_ hp_ hq_
  subst ho_
  show wT _ _ _ _ _ _ _ _
  obtain rfl:=aj hF
  exact Ir (H0:=([((aJ 0),gB 2 Run.enc s_10.1)]:Hp)) (sl':=envS []) hq_ (H8 (bs:=([]:List Box)) (os:=([]:List Box)) (xs:=data_1) (o:=gB 2 Run.enc s_10.1) (.inl rfl) [] trivial rfl rfl rfl rfl rfl (by kernel_rfl) zT rfl)
theorem jV {data_1:(List Run)} {a_2:Int} {b_3:Int} {limit_4:Int} {r:(List Run)} (hF:bS data_1 a_2 b_3 limit_4=some r) :
  FnM Tryz.prog 250 [(dV (aJ 0) 2 data_1),(vI a_2),(vI b_3),(vI limit_4),(.fn 209 [])] (([]:List Box)++gI 2 Run.enc data_1) (.tup []) (([]:List Box).map some++gT data_1 (gB 2 Run.enc r)):=by
 refine FnM.of_wHv ⟨Tryz.prog,148,[],[]⟩ rfl Tryz.func250 rfl rfl (lb_ rfl) (by kernel_rfl) ?_
 unfold bS at hF
 refine af (aa (ae (vB true) wz rfl (ak (af (aa (ae (vB true) wz rfl (ak ?_)))))))
 obtain ⟨o_14,hj_15,hF⟩:=bind_some hF
 obtain ⟨nq_21,hj_15⟩:=d9 hj_15
 refine aH (β:=(Unit)) (λ(s_11:Unit)=>([]:SL_)) (λ(s_11:Unit)=>([((aJ 0),gB 2 Run.enc data_1)]:Hp)) (λp=>o_14 = .go p) ?_ ?_
 ·refine aG (bv (β:=Nat×(Unit)) (λp=>(λ(k_6:Nat) (s_11:Unit)=>([(0,(dV (aJ 0) 2 data_1)),(1,(vI a_2)),(2,(vI b_3)),(3,(vI limit_4)),(4,(.fn 209 [])),(10,(vB true)),(11,(vB true))]:SL_)) p.1 p.2) (λp=>(λ(k_6:Nat) (s_11:Unit)=>([((aJ 0),gB 2 Run.enc data_1)]:Hp)) p.1 p.2) (λp=>iterN (λs=>bN b_3 a_2 data_1 limit_4 s) p.1 p.2=some o_14) (λp=>p.1) (nq_21,()) hj_15 rfl (aK rfl) ?_)
  rintro ⟨k_6,s_11⟩ hL_13
  dsimp only at hL_13
  cases k_6 with
  | zero=>cases hL_13
  | succ k_6 =>
   obtain ⟨c_,hc_12,hL_13⟩:=bind_some hL_13
   unfold bN at hc_12
   refine aG (af (aa (ae (vI b_3) wz rfl (ae (vI a_2) wz rfl (ae (vI (w64 (b_3-a_2))) wz rfl (ae (vI (w64 (b_3-a_2))) wz rfl (ak (af (af (aa (ae (vI (w64 (b_3-a_2))) wz rfl (ae (vB (decide ((w64 (b_3-a_2))<=12))) wz rfl (ak ?_)))))))))))))
   rcases au hc_12 with⟨hc_16,hc_12⟩|⟨hc_16,hc_12⟩
   ·refine aB rfl hc_16 (af (aa (ae (dV (aJ 0) 2 data_1) wz rfl (ae (vI a_2) wz rfl (ae (vI b_3) wz rfl (ae (.fn 209 []) wz rfl ?_))))))
    obtain ⟨r_17,hr_18,hc_12⟩:=bind_some hc_12
    obtain ⟨_,hs_19,hc_12⟩:=bind_some hc_12
    replace hs_19:=xQ hs_19
    refine xW 0 [] 0 0 il ft (iU hr_18) rfl hb265 rfl rfl rfl (by kernel_rfl) rfl (.inr (.inl rfl)) rfl (by kernel_rfl) (by kernel_rfl) (by kernel_rfl) (by kernel_rfl) rfl (by decide) (by kernel_rfl) zT (IV hs_19) wz ([((aJ 0),gB 2 Run.enc r_17)]:Hp) (by kernel_rfl) (kG (v':=(dV (aJ 0) 2 r_17)) 0 rfl (lU hs_19.symm) (kG (v':=(dV (aJ 0) 2 r_17)) 26 rfl (lU hs_19.symm) (ak ?_)))
    obtain rfl:=aj hc_12
    obtain rfl:=aj hL_13
    obtain rfl:=aj hF
    exact ay (H8 (bs:=([]:List Box)) (os:=([]:List Box)) (xs:=data_1) (o:=gB 2 Run.enc r_17) (.inr rfl) [] trivial rfl rfl rfl rfl rfl (by kernel_rfl) zT rfl)
   ·refine aA rfl hc_16 (av (af (af (aa (ae (vI limit_4) wz rfl (ae (vB (limit_4==0)) wz rfl (ak ?_)))))))
    rcases au hc_12 with⟨hc_20,hc_12⟩|⟨hc_20,hc_12⟩
    ·refine aB rfl hc_20 (af (aa (ae (dV (aJ 0) 2 data_1) wz rfl (ae (vI a_2) wz rfl (ae (vI b_3) wz rfl (ae (.fn 209 []) wz rfl ?_))))))
     cases hc_12
    ·refine aA rfl hc_20 (av (af (af (aa (ae (vB true) wz rfl (ae (vB false) wz rfl (ak (aA rfl rfl (av (af (aa (ae (dV (aJ 0) 2 data_1) wz rfl (ae (vI a_2) wz rfl (ae (vI b_3) wz rfl (ae (.fn 209 []) wz rfl ?_)))))))))))))))
     cases hc_12
 ·rintro s_11 ho_ sl_ H_ hp_ hq_
  subst ho_
  show wT _ _ _ _ _ _ _ _
  obtain rfl:=aj hF
  exact Ir (H0:=([((aJ 0),gB 2 Run.enc data_1)]:Hp)) (sl':=envS []) hq_ (H8 (bs:=([]:List Box)) (os:=([]:List Box)) (xs:=data_1) (o:=gB 2 Run.enc data_1) (.inl rfl) [] trivial rfl rfl rfl rfl rfl (by kernel_rfl) zT rfl)
theorem jh {x_1:(List Run)} {r:(List Run)} (hF:bI x_1=some r) :
  FnM Tryz.prog 208 [(dV (aJ 0) 2 x_1),(.fn 209 [])] (([]:List Box)++gI 2 Run.enc x_1) (.tup []) (([]:List Box).map some++gT x_1 (gB 2 Run.enc r)):=by
 refine FnM.of_wHv ⟨Tryz.prog,14,[],[]⟩ rfl Tryz.func208 rfl rfl (lb_ rfl) (by kernel_rfl) ?_
 unfold bI at hF
 refine af (aa (ae (dV (aJ 0) 2 x_1) wz rfl (GD wN rfl wz (ae (vI (x_1.length:Int)) wz rfl (ak (aa (ae (dV (aJ 0) 2 x_1) wz rfl (ae (vI (x_1.length:Int)) wz rfl (ae (vI (x_1.length:Int)) wz rfl (nk un3 KY rfl wz ?_))))))))))
 obtain ⟨r_3,hr_4,hF⟩:=bind_some hF
 refine aD (zh hr_4) rfl hb96 rfl rfl rfl rfl wz (ae (.fn 209 []) wz rfl ?_)
 obtain ⟨r_5,hr_6,hF⟩:=bind_some hF
 obtain ⟨_,hs_7,hF⟩:=bind_some hF
 replace hs_7:=xQ hs_7
 refine xW 0 [] 0 0 il ft (jV hr_6) rfl hb250 rfl rfl rfl (by kernel_rfl) rfl (.inr (.inl rfl)) rfl (by kernel_rfl) (by kernel_rfl) (by kernel_rfl) (by kernel_rfl) rfl (by decide) (by kernel_rfl) zT (IV hs_7) wz ([((aJ 0),gB 2 Run.enc r_5)]:Hp) (by kernel_rfl) (kG (v':=(dV (aJ 0) 2 r_5)) 0 rfl (lU hs_7.symm) (kG (v':=(dV (aJ 0) 2 r_5)) 5 rfl (lU hs_7.symm) (kG (v':=(dV (aJ 0) 2 r_5)) 7 rfl (lU hs_7.symm) (ak ?_))))
 show wT _ _ _ _ _ _ _ _
 obtain rfl:=aj hF
 exact H8 (bs:=([]:List Box)) (os:=([]:List Box)) (xs:=x_1) (o:=gB 2 Run.enc r_5) (.inl rfl) [] trivial rfl rfl rfl rfl rfl (by kernel_rfl) zT rfl
theorem vo {l_1:(List Rect)} {y_2:Int} {r:(List Run)} (hF:lV l_1 y_2=some r) :
  FnM Tryz.prog 157 [(vL Rect.enc l_1),(vI y_2)] [] (vL Run.enc r) []:=by
 refine FnM.of_wH ⟨Tryz.prog,84,[],[]⟩ rfl Tryz.func157 rfl rfl (lb_ rfl) (by kernel_rfl) ?_
 unfold lV at hF
 refine af (aa (ae .nil wz rfl (ak (af (aa (ae .nil wz rfl (ak (af (af (aa (ae (vL Rect.enc l_1) wz rfl (bJ rM rfl wz (ae (vI 0) wz rfl (ak (kZ (λn_9 => ?_))))))))))))))))
 obtain ⟨o_14,hj_15,hF⟩:=bind_some hF
 obtain ⟨hn_7,hj_15⟩:=bg hj_15
 refine aH (β:=((List Run))×Nm) (λp=>(λ(s_8:List Run) (n_11:Nm)=>([(5,(gV n_11 2 s_8))]:SL_)) p.1 p.2) (λp=>(λ(s_8:List Run) (n_11:Nm)=>([(n_11,gB 2 Run.enc s_8)]:Hp)) p.1 p.2) (λp=>o_14 = .go p.1) ?_ ?_
 ·refine aG (bv (β:=Nat×(List Rect)×((List Run))×Nm) (λp=>(λ(k_3:Nat) (l_4:List Rect) (s_8:List Run) (n_11:Nm)=>([(1,(vI y_2)),(5,(gV n_11 2 s_8)),(12,(vL Rect.enc l_1)),(13,(vI (l_1.length:Int))),(14,(vI (k_3:Int)))]:SL_)) p.1 p.2.1 p.2.2.1 p.2.2.2) (λp=>(λ(k_3:Nat) (l_4:List Rect) (s_8:List Run) (n_11:Nm)=>([(n_11,gB 2 Run.enc s_8)]:Hp)) p.1 p.2.1 p.2.2.1 p.2.2.2) (λp=>forR (λk x s=>mE y_2 k x s) p.2.1 p.1 p.2.2.1=some o_14/\(l_1).drop p.1=p.2.1) (λp=>p.2.1.length) (0,l_1,([]:List Run),n_9) ⟨hj_15,rfl⟩ rfl (aK rfl) ?_)
  rintro ⟨k_3,l_4,s_8,n_11⟩ ⟨hL_13,hD_6⟩
  dsimp only at hL_13 hD_6
  cases l_4 with
  | nil =>
   obtain rfl:=aj hL_13
   refine af (aa (ae (vB (decide ((k_3:Int)<(l_1.length:Int)))) wz rfl (ak ?_)))
   refine af (aA rfl (drop_nil hD_6) (aX ?_))
   exact aS (s_8,n_11) rfl rfl (aK rfl)
  | cons x_5 l_4 =>
   obtain ⟨c_,hc_12,hL_13⟩:=bind_some hL_13
   refine af (aa (ae (vB (decide ((k_3:Int)<(l_1.length:Int)))) wz rfl (ak ?_)))
   refine af (aB rfl (bz hD_6) (av ?_))
   unfold mE at hc_12
   refine af (aG (af (aa (dP xN rfl rfl (bE hD_6) rfl wz (bO nY zB rfl (.d (.agg (Rect.enc x_5))) rfl wz (dA 0 (.inl rfl) Fv rfl wz (λn_16=>dX 0 il ft 1 nY rfl rfl [(vI x_5.X),(vI x_5.Y),(vI x_5.W),(vI x_5.H)] rfl wz (ak (af ?_)))))))))
   obtain ⟨v_17,h_18,hc_12⟩:=bind_some hc_12
   refine aH (β:=Unit) (λ_=>([(1,(vI y_2)),(5,(gV n_11 2 s_8)),(7,(.ref n_16 0 0)),(12,(vL Rect.enc l_1)),(13,(vI (l_1.length:Int))),(14,(vI (k_3:Int))),(30,(vB v_17))]:SL_)) (λ_=>([(n_11,gB 2 Run.enc s_8),(n_16,some (.cells 4 [(vI x_5.X),(vI x_5.Y),(vI x_5.W),(vI x_5.H)]))]:Hp)) (λ_=>True) ?_ ?_
   ·refine aa (aF qJ rfl 1 rfl wz (aC 0 1 il ft sz3 ag3 rfl rfl (vI x_5.Y) rfl wz (ae (vI y_2) wz rfl (ae (vB (decide (x_5.Y<=y_2))) wz rfl ?_))))
    rcases au h_18 with⟨hc_19,h_18⟩|⟨hc_19,h_18⟩
    ·refine ax rfl hc_19 wz (ae (vI y_2) wa rfl (aF qJ rfl 1 rfl wa (aC 0 1 il ft sz3 ag3 rfl rfl (vI x_5.Y) rfl wa (aF yf rfl 3 rfl wa (aC 0 1 il ft sz3 ag3 rfl rfl (vI x_5.H) rfl wa (ae (vI (w64 (x_5.Y+x_5.H))) wa rfl (ae (vB (decide (y_2<(w64 (x_5.Y+x_5.H))))) wa rfl (ae (vB (decide (y_2<(w64 (x_5.Y+x_5.H))))) wz rfl (ak ?_)))))))))
     obtain rfl:=aj h_18
     exact cu
    ·refine ax rfl hc_19 wz (ah wa (ah wa (ah wa (ah wa (ah wa (ah wa (ah wa (ae (vB false) wz rfl (ak ?_)))))))))
     obtain rfl:=aj h_18
     exact cu
   ·rintro ⟨⟩ _ sl_ H_ hp_ hq_
    refine aM _ hp_ hq_ ?_
    obtain ⟨v_20,h_21,hc_12⟩:=bind_some hc_12
    refine aH (β:=Nm) (λ(n_22:Nm)=>([(1,(vI y_2)),(5,(gV n_22 2 v_20)),(12,(vL Rect.enc l_1)),(13,(vI (l_1.length:Int))),(14,(vI (k_3:Int)))]:SL_)) (λ(n_22:Nm)=>([(n_22,gB 2 Run.enc v_20),(n_16,some (.cells 4 [(vI x_5.X),(vI x_5.Y),(vI x_5.W),(vI x_5.H)]))]:Hp)) (λ_=>True) ?_ ?_
    ·rcases au h_21 with⟨hc_23,h_21⟩|⟨hc_23,h_21⟩
     ·refine aB rfl hc_23 (aa (ae (gV n_11 2 s_8) wz rfl (aF vN rfl 0 rfl wz (aC 0 1 il ft sz3 ag3 rfl rfl (vI x_5.X) rfl wz (aF vN rfl 0 rfl wz (aC 0 1 il ft sz3 ag3 rfl rfl (vI x_5.X) rfl wz (aF AB rfl 2 rfl wz (aC 0 1 il ft sz3 ag3 rfl rfl (vI x_5.W) rfl wz (ae (vI (w64 (x_5.X+x_5.W))) wz rfl (ae (.d (.agg (Run.enc (⟨x_5.X,(w64 (x_5.X+x_5.W))⟩:Run)))) wz (by kernel_rfl) (eO (([(⟨x_5.X,(w64 (x_5.X+x_5.W))⟩:Run)]:List Run).map Run.enc) jS Ii rfl rfl rfl rfl rfl wz ?_)))))))))))
      obtain ⟨a_24,hz_25,h_21⟩:=bind_some h_21
      refine jH 0 il ft (i:=0) zR zR lW z210 rfl (by decide) Iu (by decide) (λ_=>rfl) rfl rfl rfl hz_25 wz (λn_26=>ae (gV n_26 2 a_24) wz rfl (ak ?_))
      obtain rfl:=aj h_21
      exact aS n_26 trivial rfl (aK rfl)
     ·refine aA rfl hc_23 (av ?_)
      obtain rfl:=aj h_21
      exact aS n_11 trivial rfl (aK rfl)
    ·rintro n_22 _ sl_ H_ hp_ hq_
     refine aM _ hp_ hq_ (aa (eQ (bB hD_6 hn_7) wz rfl (ae (vI ((k_3+1:Nat):Int)) wz rfl (ak ?_))))
     obtain rfl:=aj hc_12
     exact aY (k_3+1,l_4,v_20,n_22) ⟨hL_13,aR hD_6⟩ (ls_ _) rfl (aK rfl)
 ·rintro ⟨s_8,n_11⟩ ho_ sl_ H_ hp_ hq_
  subst ho_
  refine aM _ hp_ hq_ (af (aa (ae (gV n_11 2 s_8) wz rfl ?_)))
  obtain ⟨r_27,hr_28,hF⟩:=bind_some hF
  obtain ⟨_,hs_29,hF⟩:=bind_some hF
  replace hs_29:=xQ hs_29
  refine xW 0 [] 0 0 il ft (jh hr_28) rfl hb208 rfl rfl rfl (by kernel_rfl) rfl (.inl rfl) rfl (by kernel_rfl) (by kernel_rfl) (by kernel_rfl) (by kernel_rfl) rfl (by decide) (by kernel_rfl) zT (IV hs_29) wz ([(n_11,gB 2 Run.enc r_27)]:Hp) (by kernel_rfl) (kG (v':=(gV n_11 2 r_27)) 43 rfl (qY hs_29.symm) (kG (v':=(gV n_11 2 r_27)) 5 rfl (qY hs_29.symm) (ak (af (aa (ae .nil wz rfl (ak (af (af (aa (ae (gV n_11 2 r_27) wz rfl (G7 wN rfl wz (ae (vI 0) wz rfl (ak (fB 0 rfl (ek 5 0 rfl rfl (ek 43 0 rfl rfl (ek 45 0 rfl rfl (kZ (λn_36 => ?_))))))))))))))))))))
  obtain ⟨o_41,hj_42,hF⟩:=bind_some hF
  obtain ⟨hn_34,hj_42⟩:=bg hj_42
  refine aH (β:=((List Run))×Nm) (λp=>(λ(s_35:List Run) (n_38:Nm)=>([(8,(gV n_38 2 s_35))]:SL_)) p.1 p.2) (λp=>(λ(s_35:List Run) (n_38:Nm)=>([(n_11,gF 2 Run.enc r_27),(n_38,gB 2 Run.enc s_35)]:Hp)) p.1 p.2) (λp=>o_41 = .go p.1) ?_ ?_
  ·refine aG (bv (β:=Nat×(List Run)×((List Run))×Nm) (λp=>(λ(k_30:Nat) (l_31:List Run) (s_35:List Run) (n_38:Nm)=>([(8,(gV n_38 2 s_35)),(45,(vL Run.enc r_27)),(46,(vI (r_27.length:Int))),(47,(vI (k_30:Int)))]:SL_)) p.1 p.2.1 p.2.2.1 p.2.2.2) (λp=>(λ(k_30:Nat) (l_31:List Run) (s_35:List Run) (n_38:Nm)=>([(n_11,gF 2 Run.enc r_27),(n_38,gB 2 Run.enc s_35)]:Hp)) p.1 p.2.1 p.2.2.1 p.2.2.2) (λp=>forR (λk x s=>mr k x s) p.2.1 p.1 p.2.2.1=some o_41/\(r_27).drop p.1=p.2.1) (λp=>p.2.1.length) (0,r_27,([]:List Run),n_36) ⟨hj_42,rfl⟩ rfl (aK rfl) ?_)
   rintro ⟨k_30,l_31,s_35,n_38⟩ ⟨hL_40,hD_33⟩
   dsimp only at hL_40 hD_33
   cases l_31 with
   | nil =>
    obtain rfl:=aj hL_40
    refine af (aa (ae (vB (decide ((k_30:Int)<(r_27.length:Int)))) wz rfl (ak ?_)))
    refine af (aA rfl (drop_nil hD_33) (aX ?_))
    exact aS (s_35,n_38) rfl rfl (aK rfl)
   | cons x_32 l_31 =>
    obtain ⟨c_,hc_39,hL_40⟩:=bind_some hL_40
    refine af (aa (ae (vB (decide ((k_30:Int)<(r_27.length:Int)))) wz rfl (ak ?_)))
    refine af (aB rfl (bz hD_33) (av ?_))
    unfold mr at hc_39
    refine af (aG (af (aa (dP jS rfl rfl (bE hD_33) rfl wz (bO lW uJ rfl (.d (.agg (Run.enc x_32))) rfl wz (dA 0 (.inl rfl) z210 rfl wz (λn_43=>dX 0 il ft 2 lW rfl rfl [(vI x_32.f_from),(vI x_32.f_to)] rfl wz (ak (af (aa (ae (gV n_38 2 s_35) wz rfl (G7 wN rfl wz (ae (vI (w64 ((s_35.length:Int)-1))) wz rfl (ae (vI (w64 ((s_35.length:Int)-1))) wz rfl (ak (af ?_))))))))))))))))
    obtain ⟨v_44,h_45,hc_39⟩:=bind_some hc_39
    refine aH (β:=Unit) (λ_=>([(8,(gV n_38 2 s_35)),(10,(.ref n_43 0 0)),(11,(vI (w64 ((s_35.length:Int)-1)))),(45,(vL Run.enc r_27)),(46,(vI (r_27.length:Int))),(47,(vI (k_30:Int))),(65,(vB v_44))]:SL_)) (λ_=>([(n_11,gF 2 Run.enc r_27),(n_38,gB 2 Run.enc s_35),(n_43,some (.cells 2 [(vI x_32.f_from),(vI x_32.f_to)]))]:Hp)) (λ_=>True) ?_ ?_
    ·refine bG (ae (vI (w64 ((s_35.length:Int)-1))) wz rfl (ae (vB (decide ((w64 ((s_35.length:Int)-1))>=0))) wz rfl ?_))
     rcases au h_45 with⟨hc_46,h_45⟩|⟨hc_46,h_45⟩
     ·refine ax rfl hc_46 wz (aF jQ rfl 0 rfl wa (aC 4 2 (.inr (by kernel_rfl)) (λ_ _ ag=>trivial) sz3 ag3 rfl rfl (vI x_32.f_from) rfl wa (ae (gV n_38 2 s_35) wa rfl (ae (vI (w64 ((s_35.length:Int)-1))) wa rfl ?_))))
      obtain ⟨_,hi_47,h_45⟩:=bind_some h_45
      refine AQ jS rfl rfl (qC hi_47) (mo hi_47) wa (aF o8 rfl 1 rfl wa ?_)
      obtain ⟨e_48,hy_49,h_45⟩:=bind_some h_45
      refine uf 9 1 (.inr (by kernel_rfl)) (λ_ _ ag=>⟨.inl ⟨rfl,rfl⟩,trivial⟩) sz3 ag3 rfl rfl hy_49 (vI e_48.f_to) rfl wa (ae (vB (decide (x_32.f_from<=e_48.f_to))) wa rfl (ae (vB (decide (x_32.f_from<=e_48.f_to))) wz rfl (ak ?_)))
      obtain rfl:=aj h_45
      exact cu
     ·refine ax rfl hc_46 wz (ah wa (ah wa (ah wa (ah wa (ah wa (ah wa (ah wa (ah wa (ae (vB false) wz rfl (ak ?_))))))))))
      obtain rfl:=aj h_45
      exact cu
    ·rintro ⟨⟩ _ sl_ H_ hp_ hq_
     refine aM _ hp_ hq_ ?_
     obtain ⟨v_50,h_51,hc_39⟩:=bind_some hc_39
     refine aH (β:=Nm) (λ(n_52:Nm)=>([(8,(gV n_52 2 v_50)),(45,(vL Run.enc r_27)),(46,(vI (r_27.length:Int))),(47,(vI (k_30:Int)))]:SL_)) (λ(n_52:Nm)=>([(n_11,gF 2 Run.enc r_27),(n_52,gB 2 Run.enc v_50),(n_43,some (.cells 2 [(vI x_32.f_from),(vI x_32.f_to)]))]:Hp)) (λ_=>True) ?_ ?_
     ·rcases au h_51 with⟨hc_53,h_51⟩|⟨hc_53,h_51⟩
      ·refine aB rfl hc_53 (bG (ae (gV n_38 2 s_35) wz rfl (ae (vI (w64 ((s_35.length:Int)-1))) wz rfl (ae (gV n_38 2 s_35) wz rfl (ae (vI (w64 ((s_35.length:Int)-1))) wz rfl ?_)))))
       obtain ⟨_,hi_54,h_51⟩:=bind_some h_51
       refine AQ jS rfl rfl (qC hi_54) (mo hi_54) wz (aF o8 rfl 1 rfl wz ?_)
       obtain ⟨e_55,hy_56,h_51⟩:=bind_some h_51
       refine uf 6 1 (.inr (by kernel_rfl)) (λ_ _ ag=>trivial) sz3 ag3 rfl rfl hy_56 (vI e_55.f_to) rfl wz (aF o8 rfl 1 rfl wz (aC 8 2 (.inr (by kernel_rfl)) (λ_ _ ag=>⟨.inl ⟨rfl,rfl⟩,trivial⟩) sz3 ag3 rfl rfl (vI x_32.f_to) rfl wz (rY (vI (rV e_55.f_to x_32.f_to)) rfl (.inr rfl) wz ?_)))
       obtain ⟨_,hi_57,h_51⟩:=bind_some h_51
       refine AQ jS rfl rfl (qC hi_57) (mo hi_57) wz (aF o8 rfl 1 rfl wz ?_)
       obtain ⟨e_58,hy_59,h_51⟩:=bind_some h_51
       refine EF 12 (.inr (by kernel_rfl)) (λ_ _ ag=>⟨.inr (.inr (by kernel_rfl)),⟨.inr (.inr (by kernel_rfl)),trivial⟩⟩) 1 sz3 rfl rfl hy_59 (⟨e_58.f_from,(rV e_55.f_to x_32.f_to)⟩:Run) rfl wz (kG (v':=(gV n_38 2 (s_35.set (0+((w64 ((s_35.length:Int)-1))).toNat) (⟨e_58.f_from,(rV e_55.f_to x_32.f_to)⟩:Run)))) 8 rfl (qY (by simp)) (kG (v':=(gV n_38 2 (s_35.set (0+((w64 ((s_35.length:Int)-1))).toNat) (⟨e_58.f_from,(rV e_55.f_to x_32.f_to)⟩:Run)))) 66 rfl (qY (by simp)) (kG (v':=(gV n_38 2 (s_35.set (0+((w64 ((s_35.length:Int)-1))).toNat) (⟨e_58.f_from,(rV e_55.f_to x_32.f_to)⟩:Run)))) 68 rfl (qY (by simp)) (ak ?_))))
       obtain rfl:=aj h_51
       exact aS n_38 trivial rfl (aK rfl)
      ·refine aA rfl hc_53 (aa (ae (gV n_38 2 s_35) wz rfl (aC 0 2 il ft lW uJ rfl rfl (.d (.agg (Run.enc x_32))) rfl wz (eO (([x_32]:List Run).map Run.enc) jS Ii rfl rfl rfl rfl rfl wz ?_))))
       obtain ⟨a_60,hz_61,h_51⟩:=bind_some h_51
       refine jH 0 il ft (i:=1) zR zR lW z210 rfl (by decide) Iu (by decide) (λ_=>rfl) rfl rfl rfl hz_61 wz (λn_62=>ae (gV n_62 2 a_60) wz rfl (ak ?_))
       obtain rfl:=aj h_51
       exact aS n_62 trivial rfl (aK rfl)
     ·rintro n_52 _ sl_ H_ hp_ hq_
      refine aM _ hp_ hq_ (aa (eQ (bB hD_33 hn_34) wz rfl (ae (vI ((k_30+1:Nat):Int)) wz rfl (ak ?_))))
      obtain rfl:=aj hc_39
      exact aY (k_30+1,l_31,v_50,n_52) ⟨hL_40,aR hD_33⟩ (ls_ _) rfl (aK rfl)
  ·rintro ⟨s_35,n_38⟩ ho_ sl_ H_ hp_ hq_
   subst ho_
   refine aM _ hp_ hq_ (af (aa (ae (gV n_38 2 s_35) wz rfl (ae (gV n_38 2 s_35) wz rfl (ak (fB 1 rfl (ek 4 1 rfl rfl (ek 8 1 rfl rfl (ek 83 1 rfl rfl ?_)))))))))
   obtain rfl:=aj hF
   exact ay (aO (.inr rfl) [(vL Run.enc s_35)] ⟨rfl,trivial⟩ rfl rfl rfl)
theorem BN {l_1:(List Run)} {m_2:(List Run)} {r:(List Run)} (hF:oo l_1 m_2=some r) :
  FnM Tryz.prog 156 [(vL Run.enc l_1),(vL Run.enc m_2)] [] (vL Run.enc r) []:=by
 refine FnM.of_wH ⟨Tryz.prog,88,[],[]⟩ rfl Tryz.func156 rfl rfl (lb_ rfl) (by kernel_rfl) ?_
 unfold oo at hF
 refine af (aa (ae .nil wz rfl (ak (af (aa (ae .nil wz rfl (ak (af (aa (ae (vI 0) wz rfl (ak (af (af (aa (ae (vL Run.enc l_1) wz rfl (bJ wN rfl wz (ae (vI 0) wz rfl (ak (kZ (λn_9 => ?_))))))))))))))))))))
 obtain ⟨o_14,hj_15,hF⟩:=bind_some hF
 obtain ⟨hn_7,hj_15⟩:=bg hj_15
 refine aH (β:=((List Run)×Int)×Nm) (λp=>(λ(s_8:(List Run)×Int) (n_11:Nm)=>([(5,(gV n_11 2 s_8.1))]:SL_)) p.1 p.2) (λp=>(λ(s_8:(List Run)×Int) (n_11:Nm)=>([(n_11,gB 2 Run.enc s_8.1)]:Hp)) p.1 p.2) (λp=>o_14 = .go p.1) ?_ ?_
 ·refine aG (bv (β:=Nat×(List Run)×((List Run)×Int)×Nm) (λp=>(λ(k_3:Nat) (l_4:List Run) (s_8:(List Run)×Int) (n_11:Nm)=>([(1,(vL Run.enc m_2)),(5,(gV n_11 2 s_8.1)),(6,(vI s_8.2)),(10,(vL Run.enc l_1)),(11,(vI (l_1.length:Int))),(12,(vI (k_3:Int)))]:SL_)) p.1 p.2.1 p.2.2.1 p.2.2.2) (λp=>(λ(k_3:Nat) (l_4:List Run) (s_8:(List Run)×Int) (n_11:Nm)=>([(n_11,gB 2 Run.enc s_8.1)]:Hp)) p.1 p.2.1 p.2.2.1 p.2.2.2) (λp=>forR (λk x s=>jY m_2 k x s) p.2.1 p.1 p.2.2.1=some o_14/\(l_1).drop p.1=p.2.1) (λp=>p.2.1.length) (0,l_1,(([]:List Run),0),n_9) ⟨hj_15,rfl⟩ rfl (aK rfl) ?_)
  rintro ⟨k_3,l_4,s_8,n_11⟩ ⟨hL_13,hD_6⟩
  dsimp only at hL_13 hD_6
  cases l_4 with
  | nil =>
   obtain rfl:=aj hL_13
   refine af (aa (ae (vB (decide ((k_3:Int)<(l_1.length:Int)))) wz rfl (ak ?_)))
   refine af (aA rfl (drop_nil hD_6) (aX ?_))
   exact aS (s_8,n_11) rfl rfl (aK rfl)
  | cons x_5 l_4 =>
   obtain ⟨c_,hc_12,hL_13⟩:=bind_some hL_13
   refine af (aa (ae (vB (decide ((k_3:Int)<(l_1.length:Int)))) wz rfl (ak ?_)))
   refine af (aB rfl (bz hD_6) (av ?_))
   unfold jY at hc_12
   refine af (aG (af (aa (dP jS rfl rfl (bE hD_6) rfl wz (bO lW uJ rfl (.d (.agg (Run.enc x_5))) rfl wz (dA 0 (.inl rfl) z210 rfl wz (λn_16=>dX 0 il ft 1 lW rfl rfl [(vI x_5.f_from),(vI x_5.f_to)] rfl wz (ak (af ?_)))))))))
   obtain ⟨o_25,hj_26,hc_12⟩:=bind_some hc_12
   obtain ⟨nq_72,hj_26⟩:=d9 hj_26
   refine aH (β:=(Int)) (λ(s_22:Int)=>([(1,(vL Run.enc m_2)),(5,(gV n_11 2 s_8.1)),(6,(vI s_22)),(8,(.ref n_16 0 0)),(10,(vL Run.enc l_1)),(11,(vI (l_1.length:Int))),(12,(vI (k_3:Int)))]:SL_)) (λ(s_22:Int)=>([(n_11,gB 2 Run.enc s_8.1),(n_16,some (.cells 2 [(vI x_5.f_from),(vI x_5.f_to)]))]:Hp)) (λp=>o_25 = .go p) ?_ ?_
   ·refine aG (bv (β:=Nat×(Int)) (λp=>(λ(k_17:Nat) (s_22:Int)=>([(1,(vL Run.enc m_2)),(5,(gV n_11 2 s_8.1)),(6,(vI s_22)),(8,(.ref n_16 0 0)),(10,(vL Run.enc l_1)),(11,(vI (l_1.length:Int))),(12,(vI (k_3:Int)))]:SL_)) p.1 p.2) (λp=>(λ(k_17:Nat) (s_22:Int)=>([(n_11,gB 2 Run.enc s_8.1),(n_16,some (.cells 2 [(vI x_5.f_from),(vI x_5.f_to)]))]:Hp)) p.1 p.2) (λp=>iterN (λs=>mD m_2 x_5 s) p.1 p.2=some o_25) (λp=>p.1) (nq_72,s_8.2) hj_26 rfl (aK rfl) ?_)
    rintro ⟨k_17,s_22⟩ hL_24
    dsimp only at hL_24
    cases k_17 with
    | zero=>cases hL_24
    | succ k_17 =>
     obtain ⟨c_,hc_23,hL_24⟩:=bind_some hL_24
     unfold mD at hc_23
     refine af (af ?_)
     obtain ⟨v_27,h_28,hc_23⟩:=bind_some hc_23
     refine aH (β:=Unit) (λ_=>([(1,(vL Run.enc m_2)),(5,(gV n_11 2 s_8.1)),(6,(vI s_22)),(8,(.ref n_16 0 0)),(10,(vL Run.enc l_1)),(11,(vI (l_1.length:Int))),(12,(vI (k_3:Int))),(29,(vB v_27))]:SL_)) (λ_=>([(n_11,gB 2 Run.enc s_8.1),(n_16,some (.cells 2 [(vI x_5.f_from),(vI x_5.f_to)]))]:Hp)) (λ_=>True) ?_ ?_
     ·refine bG (ae (vI s_22) wz rfl (ae (vL Run.enc m_2) wz rfl (bJ wN rfl wz (ae (vB (decide (s_22<(m_2.length:Int)))) wz rfl ?_))))
      rcases au h_28 with⟨hc_29,h_28⟩|⟨hc_29,h_28⟩
      ·refine ax rfl hc_29 wz (ae (vL Run.enc m_2) wa rfl (ae (vI s_22) wa rfl ?_))
       obtain ⟨y_30,hy_31,h_28⟩:=bind_some h_28
       refine dP jS rfl rfl hy_31 rfl wa (p9 o8 rfl [.int .i64 y_30.f_to] rfl rfl wa (bO sz3 ag3 rfl (vI y_30.f_to) rfl wa (aF jQ rfl 0 rfl wa (aC 11 1 (.inr (by kernel_rfl)) (λ_ _ ag=>trivial) sz3 ag3 rfl rfl (vI x_5.f_from) rfl wa (ae (vB (decide (y_30.f_to<=x_5.f_from))) wa rfl (ae (vB (decide (y_30.f_to<=x_5.f_from))) wz rfl (ak ?_)))))))
       obtain rfl:=aj h_28
       exact cu
      ·refine ax rfl hc_29 wz (ah wa (ah wa (ah wa (ah wa (ah wa (ah wa (ah wa (ah wa (ae (vB false) wz rfl (ak ?_))))))))))
       obtain rfl:=aj h_28
       exact cu
     ·rintro ⟨⟩ _ sl_ H_ hp_ hq_
      refine aM _ hp_ hq_ ?_
      rcases au hc_23 with⟨hc_32,hc_23⟩|⟨hc_32,hc_23⟩
      ·refine aB rfl hc_32 (av (aG (aa (ae (vI s_22) wz rfl (ae (vI (w64 (s_22+1))) wz rfl (ae (vI (w64 (s_22+1))) wz rfl (ak ?_)))))))
       obtain rfl:=aj hc_23
       exact aY (k_17,(w64 (s_22+1))) hL_24 (ls_ _) rfl (aK rfl)
      ·refine aA rfl hc_32 (aX ?_)
       obtain rfl:=aj hc_23
       obtain rfl:=aj hL_24
       exact aS (s_22) rfl rfl (aK rfl)
   ·rintro s_22 ho_ sl_ H_ hp_ hq_
    subst ho_
    refine aM _ hp_ hq_ (af (af (aa (ae (vI s_22) wz rfl (ae (vI s_22) wz rfl (ak ?_))))))
    obtain ⟨o_43,hj_44,hc_12⟩:=bind_some hc_12
    obtain ⟨nq_71,hj_44⟩:=d9 hj_44
    refine aH (β:=((List Run)×Int×Int)×Nm) (λp=>(λ(s_38:(List Run)×Int×Int) (n_40:Nm)=>([(1,(vL Run.enc m_2)),(5,(gV n_40 2 s_38.1)),(6,(vI s_22)),(8,(.ref n_16 0 0)),(10,(vL Run.enc l_1)),(11,(vI (l_1.length:Int))),(12,(vI (k_3:Int)))]:SL_)) p.1 p.2) (λp=>(λ(s_38:(List Run)×Int×Int) (n_40:Nm)=>([(n_40,gB 2 Run.enc s_38.1),(n_16,some (.cells 2 [(vI s_38.2.2),(vI x_5.f_to)]))]:Hp)) p.1 p.2) (λp=>o_43 = .go p.1) ?_ ?_
    ·refine aG (bv (β:=Nat×((List Run)×Int×Int)×Nm) (λp=>(λ(k_33:Nat) (s_38:(List Run)×Int×Int) (n_40:Nm)=>([(1,(vL Run.enc m_2)),(5,(gV n_40 2 s_38.1)),(6,(vI s_22)),(8,(.ref n_16 0 0)),(9,(vI s_38.2.1)),(10,(vL Run.enc l_1)),(11,(vI (l_1.length:Int))),(12,(vI (k_3:Int)))]:SL_)) p.1 p.2.1 p.2.2) (λp=>(λ(k_33:Nat) (s_38:(List Run)×Int×Int) (n_40:Nm)=>([(n_40,gB 2 Run.enc s_38.1),(n_16,some (.cells 2 [(vI s_38.2.2),(vI x_5.f_to)]))]:Hp)) p.1 p.2.1 p.2.2) (λp=>iterN (λs=>mJ m_2 x_5 s) p.1 p.2.1=some o_43) (λp=>p.1) (nq_71,(s_8.1,s_22,x_5.f_from),n_11) hj_44 rfl (aK rfl) ?_)
     rintro ⟨k_33,s_38,n_40⟩ hL_42
     dsimp only at hL_42
     cases k_33 with
     | zero=>cases hL_42
     | succ k_33 =>
      obtain ⟨c_,hc_41,hL_42⟩:=bind_some hL_42
      unfold mJ at hc_41
      refine af (af ?_)
      obtain ⟨v_45,h_46,hc_41⟩:=bind_some hc_41
      refine aH (β:=Unit) (λ_=>([(1,(vL Run.enc m_2)),(5,(gV n_40 2 s_38.1)),(6,(vI s_22)),(8,(.ref n_16 0 0)),(9,(vI s_38.2.1)),(10,(vL Run.enc l_1)),(11,(vI (l_1.length:Int))),(12,(vI (k_3:Int))),(46,(vB v_45))]:SL_)) (λ_=>([(n_40,gB 2 Run.enc s_38.1),(n_16,some (.cells 2 [(vI s_38.2.2),(vI x_5.f_to)]))]:Hp)) (λ_=>True) ?_ ?_
      ·refine bG (ae (vI s_38.2.1) wz rfl (ae (vL Run.enc m_2) wz rfl (bJ wN rfl wz (ae (vB (decide (s_38.2.1<(m_2.length:Int)))) wz rfl ?_))))
       rcases au h_46 with⟨hc_47,h_46⟩|⟨hc_47,h_46⟩
       ·refine ax rfl hc_47 wz (ae (vL Run.enc m_2) wa rfl (ae (vI s_38.2.1) wa rfl ?_))
        obtain ⟨y_48,hy_49,h_46⟩:=bind_some h_46
        refine dP jS rfl rfl hy_49 rfl wa (p9 jQ rfl [.int .i64 y_48.f_from,.int .i64 y_48.f_to] rfl rfl wa (bO sz3 ag3 rfl (vI y_48.f_from) rfl wa (aF o8 rfl 1 rfl wa (aC 11 1 (.inr (by kernel_rfl)) (λ_ _ ag=>trivial) sz3 ag3 rfl rfl (vI x_5.f_to) rfl wa (ae (vB (decide (y_48.f_from<x_5.f_to))) wa rfl (ae (vB (decide (y_48.f_from<x_5.f_to))) wz rfl (ak ?_)))))))
        obtain rfl:=aj h_46
        exact cu
       ·refine ax rfl hc_47 wz (ah wa (ah wa (ah wa (ah wa (ah wa (ah wa (ah wa (ah wa (ae (vB false) wz rfl (ak ?_))))))))))
        obtain rfl:=aj h_46
        exact cu
      ·rintro ⟨⟩ _ sl_ H_ hp_ hq_
       refine aM _ hp_ hq_ ?_
       rcases au hc_41 with⟨hc_50,hc_41⟩|⟨hc_50,hc_41⟩
       ·refine aB rfl hc_50 (av (af (aG (af (af (bG (ae (vL Run.enc m_2) wz rfl (ae (vI s_38.2.1) wz rfl ?_))))))))
        obtain ⟨y_51,hy_52,hc_41⟩:=bind_some hc_41
        refine dP jS rfl rfl hy_52 rfl wz (p9 jQ rfl [.int .i64 y_51.f_from,.int .i64 y_51.f_to] rfl rfl wz (bO sz3 ag3 rfl (vI y_51.f_from) rfl wz (aF jQ rfl 0 rfl wz (aC 6 1 (.inr (by kernel_rfl)) (λ_ _ ag=>trivial) sz3 ag3 rfl rfl (vI s_38.2.2) rfl wz (ae (vB (decide (y_51.f_from>s_38.2.2))) wz rfl (ak ?_))))))
        obtain ⟨v_53,h_54,hc_41⟩:=bind_some hc_41
        refine aH (β:=Nm) (λ(n_55:Nm)=>([(1,(vL Run.enc m_2)),(5,(gV n_55 2 v_53)),(6,(vI s_22)),(8,(.ref n_16 0 0)),(9,(vI s_38.2.1)),(10,(vL Run.enc l_1)),(11,(vI (l_1.length:Int))),(12,(vI (k_3:Int)))]:SL_)) (λ(n_55:Nm)=>([(n_55,gB 2 Run.enc v_53),(n_16,some (.cells 2 [(vI s_38.2.2),(vI x_5.f_to)]))]:Hp)) (λ_=>True) ?_ ?_
        ·rcases au h_54 with⟨hc_56,h_54⟩|⟨hc_56,h_54⟩
         ·refine aB rfl hc_56 (bG (ae (gV n_40 2 s_38.1) wz rfl (aF jQ rfl 0 rfl wz (aC 2 1 (.inr (by kernel_rfl)) (λ_ _ ag=>trivial) sz3 ag3 rfl rfl (vI s_38.2.2) rfl wz (ae (vL Run.enc m_2) wz rfl (ae (vI s_38.2.1) wz rfl ?_))))))
          obtain ⟨y_57,hy_58,h_54⟩:=bind_some h_54
          refine dP jS rfl rfl hy_58 rfl wz (p9 jQ rfl [.int .i64 y_57.f_from,.int .i64 y_57.f_to] rfl rfl wz (bO sz3 ag3 rfl (vI y_57.f_from) rfl wz (ae (.d (.agg (Run.enc (⟨s_38.2.2,y_57.f_from⟩:Run)))) wz (by kernel_rfl) (eO (([(⟨s_38.2.2,y_57.f_from⟩:Run)]:List Run).map Run.enc) jS Ii rfl rfl rfl rfl rfl wz ?_))))
          obtain ⟨a_59,hz_60,h_54⟩:=bind_some h_54
          refine jH 10 (.inr (by kernel_rfl)) (λ_ _ ag=>⟨.inr (.inr (by kernel_rfl)),trivial⟩) (i:=0) zR zR lW z210 rfl (by decide) Iu (by decide) (λ_=>rfl) rfl rfl rfl hz_60 wz (λn_61=>ae (gV n_61 2 a_59) wz rfl (ak ?_))
          obtain rfl:=aj h_54
          exact aS n_61 trivial rfl (aK rfl)
         ·refine aA rfl hc_56 (av ?_)
          obtain rfl:=aj h_54
          exact aS n_40 trivial rfl (aK rfl)
        ·rintro n_55 _ sl_ H_ hp_ hq_
         refine aM _ hp_ hq_ (bG (aF jQ rfl 0 rfl wz (aC 1 1 (.inr (by kernel_rfl)) (λ_ _ ag=>trivial) sz3 ag3 rfl rfl (vI s_38.2.2) rfl wz (ae (vL Run.enc m_2) wz rfl (ae (vI s_38.2.1) wz rfl ?_)))))
         obtain ⟨y_62,hy_63,hc_41⟩:=bind_some hc_41
         refine dP jS rfl rfl hy_63 rfl wz (p9 o8 rfl [.int .i64 y_62.f_to] rfl rfl wz (bO sz3 ag3 rfl (vI y_62.f_to) rfl wz (rY (vI (rV s_38.2.2 y_62.f_to)) rfl (.inr rfl) wz (aF jQ rfl 0 rfl wz (dX 9 (.inr (by kernel_rfl)) (λ_ _ ag=>⟨.inr (.inr (by kernel_rfl)),trivial⟩) 1 sz3 rfl rfl [(vI (rV s_38.2.2 y_62.f_to)),(vI x_5.f_to)] rfl wz (ak (aa (ae (vI s_38.2.1) wz rfl (ae (vI (w64 (s_38.2.1+1))) wz rfl (ae (vI (w64 (s_38.2.1+1))) wz rfl (ak ?_)))))))))))
         obtain rfl:=aj hc_41
         exact aY (k_33,(v_53,(w64 (s_38.2.1+1)),(rV s_38.2.2 y_62.f_to)),n_55) hL_42 (ls_ _) rfl (aK rfl)
       ·refine aA rfl hc_50 (aX ?_)
        obtain rfl:=aj hc_41
        obtain rfl:=aj hL_42
        exact aS ((s_38.1,s_38.2.1,s_38.2.2),n_40) rfl rfl (aK rfl)
    ·rintro ⟨s_38,n_40⟩ ho_ sl_ H_ hp_ hq_
     subst ho_
     refine aM _ hp_ hq_ (af (aa (aF jQ rfl 0 rfl wz (aC 0 1 il ft sz3 ag3 rfl rfl (vI s_38.2.2) rfl wz (aF o8 rfl 1 rfl wz (aC 0 1 il ft sz3 ag3 rfl rfl (vI x_5.f_to) rfl wz (ae (vB (decide (s_38.2.2<x_5.f_to))) wz rfl (ak ?_))))))))
     obtain ⟨v_64,h_65,hc_12⟩:=bind_some hc_12
     refine aH (β:=Nm) (λ(n_66:Nm)=>([(1,(vL Run.enc m_2)),(5,(gV n_66 2 v_64)),(6,(vI s_22)),(10,(vL Run.enc l_1)),(11,(vI (l_1.length:Int))),(12,(vI (k_3:Int)))]:SL_)) (λ(n_66:Nm)=>([(n_66,gB 2 Run.enc v_64),(n_16,some (.cells 2 [(vI s_38.2.2),(vI x_5.f_to)]))]:Hp)) (λ_=>True) ?_ ?_
     ·rcases au h_65 with⟨hc_67,h_65⟩|⟨hc_67,h_65⟩
      ·refine aB rfl hc_67 (aa (ae (gV n_40 2 s_38.1) wz rfl (aC 0 1 il ft lW uJ rfl rfl (.d (.agg (Run.enc (⟨s_38.2.2,x_5.f_to⟩:Run)))) rfl wz (eO (([(⟨s_38.2.2,x_5.f_to⟩:Run)]:List Run).map Run.enc) jS Ii rfl rfl rfl rfl rfl wz ?_))))
       obtain ⟨a_68,hz_69,h_65⟩:=bind_some h_65
       refine jH 0 il ft (i:=0) zR zR lW z210 rfl (by decide) Iu (by decide) (λ_=>rfl) rfl rfl rfl hz_69 wz (λn_70=>ae (gV n_70 2 a_68) wz rfl (ak ?_))
       obtain rfl:=aj h_65
       exact aS n_70 trivial rfl (aK rfl)
      ·refine aA rfl hc_67 (av ?_)
       obtain rfl:=aj h_65
       exact aS n_40 trivial rfl (aK rfl)
     ·rintro n_66 _ sl_ H_ hp_ hq_
      refine aM _ hp_ hq_ (aa (eQ (bB hD_6 hn_7) wz rfl (ae (vI ((k_3+1:Nat):Int)) wz rfl (ak ?_))))
      obtain rfl:=aj hc_12
      exact aY (k_3+1,l_4,(v_64,s_22),n_66) ⟨hL_13,aR hD_6⟩ (ls_ _) rfl (aK rfl)
 ·rintro ⟨s_8,n_11⟩ ho_ sl_ H_ hp_ hq_
  subst ho_
  refine aM _ hp_ hq_ (af (aa (ae (gV n_11 2 s_8.1) wz rfl (ae (gV n_11 2 s_8.1) wz rfl (ak (fB 0 rfl (ek 4 0 rfl rfl (ek 5 0 rfl rfl (ek 87 0 rfl rfl ?_)))))))))
  obtain rfl:=aj hF
  exact ay (aO (.inr rfl) [(vL Run.enc s_8.1)] ⟨rfl,trivial⟩ rfl rfl rfl)
theorem kM {s1_1:(List Run)} {s2_2:(List Run)} {r:Bool} (hF:dx s1_1 s2_2=some r) :
  FnM Tryz.prog 158 [(vL Run.enc s1_1),(vL Run.enc s2_2)] [] (vB r) []:=by
 refine FnM.of_wH ⟨Tryz.prog,26,[],[]⟩ rfl Tryz.func158 rfl rfl (lb_ rfl) (by kernel_rfl) ?_
 unfold dx at hF
 refine af (aa (ae (vB false) wz rfl (ak (af (af (aa (ae (vL Run.enc s1_1) wz rfl (bJ wN rfl wz (ae (vL Run.enc s2_2) wz rfl (bJ wN rfl wz (ae (vB ((s1_1.length:Int) != (s2_2.length:Int))) wz rfl (ak ?_))))))))))))
 rcases au hF with⟨hc_3,hF⟩|⟨hc_3,hF⟩
 ·refine aB rfl hc_3 (af (aa (ae (vB false) wz rfl (ak ?_))))
  obtain rfl:=aj hF
  exact ay (aO (.inr rfl) [(vB false)] ⟨rfl,trivial⟩ rfl rfl rfl)
 ·refine aA rfl hc_3 (av (af (af (aa (ae (vL Run.enc s1_1) wz rfl (bJ wN rfl wz (ae (vI 0) wz rfl (ak ?_))))))))
  obtain ⟨o_12,hj_13,hF⟩:=bind_some hF
  obtain ⟨hn_8,hj_13⟩:=bg hj_13
  refine aH (β:=(Unit)) (λ(s_9:Unit)=>([]:SL_)) (λ(s_9:Unit)=>([]:Hp)) (λp=>o_12 = .go p) ?_ ?_
  ·refine aG (bv (β:=Nat×(List Run)×(Unit)) (λp=>(λ(k_4:Nat) (l_5:List Run) (s_9:Unit)=>([(0,(vL Run.enc s1_1)),(1,(vL Run.enc s2_2)),(12,(vI (s1_1.length:Int))),(13,(vI (k_4:Int)))]:SL_)) p.1 p.2.1 p.2.2) (λp=>(λ(k_4:Nat) (l_5:List Run) (s_9:Unit)=>([]:Hp)) p.1 p.2.1 p.2.2) (λp=>forR (λk x s=>dQ s2_2 k x s) p.2.1 p.1 p.2.2=some o_12/\(s1_1).drop p.1=p.2.1) (λp=>p.2.1.length) (0,s1_1,()) ⟨hj_13,rfl⟩ rfl (aK rfl) ?_)
   rintro ⟨k_4,l_5,s_9⟩ ⟨hL_11,hD_7⟩
   dsimp only at hL_11 hD_7
   cases l_5 with
   | nil =>
    obtain rfl:=aj hL_11
    refine af (aa (ae (vB (decide ((k_4:Int)<(s1_1.length:Int)))) wz rfl (ak ?_)))
    refine af (aA rfl (drop_nil hD_7) (aX ?_))
    exact aS (s_9) rfl rfl (aK rfl)
   | cons x_6 l_5 =>
    obtain ⟨c_,hc_10,hL_11⟩:=bind_some hL_11
    refine af (aa (ae (vB (decide ((k_4:Int)<(s1_1.length:Int)))) wz rfl (ak ?_)))
    refine af (aB rfl (bz hD_7) (av ?_))
    unfold dQ at hc_10
    refine af (aG (af (aa (ae (vI (k_4:Int)) wz rfl (ae (vI (k_4:Int)) wz rfl (ak (af (bG (ae (vL Run.enc s1_1) wz rfl (ae (vI (k_4:Int)) wz rfl (dP jS rfl rfl (bE hD_7) rfl wz (bO lW uJ rfl (.d (.agg (Run.enc x_6))) rfl wz (ae (vL Run.enc s2_2) wz rfl (ae (vI (k_4:Int)) wz rfl ?_))))))))))))))
    obtain ⟨y_14,hy_15,hc_10⟩:=bind_some hc_10
    refine dP jS rfl rfl hy_15 rfl wz (bO lW uJ rfl (.d (.agg (Run.enc y_14))) rfl wz (ae (vB (!((x_6.f_from==y_14.f_from)&&((x_6.f_to==y_14.f_to)&&true)))) wz (by kernel_rfl) (ak ?_)))
    rcases au hc_10 with⟨hc_16,hc_10⟩|⟨hc_16,hc_10⟩
    ·refine aB rfl hc_16 (af (aa (ae (vB false) wz rfl (ak ?_))))
     obtain rfl:=aj hc_10
     obtain rfl:=aj hL_11
     obtain rfl:=aj hF
     exact ay (aO (.inr rfl) [(vB false)] ⟨rfl,trivial⟩ rfl rfl rfl)
    ·refine aA rfl hc_16 (av (aa (eQ (bB hD_7 hn_8) wz rfl (ae (vI ((k_4+1:Nat):Int)) wz rfl (ak ?_)))))
     obtain rfl:=aj hc_10
     exact aY (k_4+1,l_5,()) ⟨hL_11,aR hD_7⟩ (ls_ _) rfl (aK rfl)
  ·rintro s_9 ho_ sl_ H_ hp_ hq_
   subst ho_
   refine aM _ hp_ hq_ (af (aa (ae (vB true) wz rfl (ak ?_))))
   obtain rfl:=aj hF
   exact ay (aO (.inr rfl) [(vB true)] ⟨rfl,trivial⟩ rfl rfl rfl)
theorem zg {l_1:(List Rect)} {m_2:(List Rect)} {r:(List Rect)} (hF:ll l_1 m_2=some r) :
  FnM Tryz.prog 106 [(vL Rect.enc l_1),(vL Rect.enc m_2)] [] (vL Rect.enc r) []:=by
 refine FnM.of_wH ⟨Tryz.prog,88,[],[]⟩ rfl Tryz.func106 rfl rfl (lb_ rfl) (by kernel_rfl) ?_
 unfold ll at hF
 refine af (aa (ae .nil wz rfl (ak (af (aa (ae .nil wz rfl (ak (af (af (aa (ae (vL Rect.enc l_1) wz rfl (ae (vL Rect.enc m_2) wz rfl (eO (([l_1,m_2]:List (List Rect)).map (eL Rect.enc)) JZ ez248 rfl rfl rfl rfl rfl wz ?_)))))))))))))
 obtain ⟨r_3,hr_4,hF⟩:=bind_some hF
 refine aD (lT hr_4) rfl hb155 rfl rfl rfl rfl wz (bJ rM rfl wz (ae (vI 0) wz rfl (ak (kZ (λn_11 => ?_)))))
 obtain ⟨o_16,hj_17,hF⟩:=bind_some hF
 obtain ⟨hn_9,hj_17⟩:=bg hj_17
 refine aH (β:=((List Int))×Nm) (λp=>(λ(s_10:List Int) (n_13:Nm)=>([(0,(vL Rect.enc l_1)),(1,(vL Rect.enc m_2)),(5,(gV n_13 1 s_10))]:SL_)) p.1 p.2) (λp=>(λ(s_10:List Int) (n_13:Nm)=>([(n_13,gB 1 eI s_10)]:Hp)) p.1 p.2) (λp=>o_16 = .go p.1) ?_ ?_
 ·refine aG (bv (β:=Nat×(List Rect)×((List Int))×Nm) (λp=>(λ(k_5:Nat) (l_6:List Rect) (s_10:List Int) (n_13:Nm)=>([(0,(vL Rect.enc l_1)),(1,(vL Rect.enc m_2)),(5,(gV n_13 1 s_10)),(19,(vL Rect.enc r_3)),(20,(vI (r_3.length:Int))),(21,(vI (k_5:Int)))]:SL_)) p.1 p.2.1 p.2.2.1 p.2.2.2) (λp=>(λ(k_5:Nat) (l_6:List Rect) (s_10:List Int) (n_13:Nm)=>([(n_13,gB 1 eI s_10)]:Hp)) p.1 p.2.1 p.2.2.1 p.2.2.2) (λp=>forR (λk x s=>kJ k x s) p.2.1 p.1 p.2.2.1=some o_16/\(r_3).drop p.1=p.2.1) (λp=>p.2.1.length) (0,r_3,([]:List Int),n_11) ⟨hj_17,rfl⟩ rfl (aK rfl) ?_)
  rintro ⟨k_5,l_6,s_10,n_13⟩ ⟨hL_15,hD_8⟩
  dsimp only at hL_15 hD_8
  cases l_6 with
  | nil =>
   obtain rfl:=aj hL_15
   refine af (aa (ae (vB (decide ((k_5:Int)<(r_3.length:Int)))) wz rfl (ak ?_)))
   refine af (aA rfl (drop_nil hD_8) (aX ?_))
   exact aS (s_10,n_13) rfl rfl (aK rfl)
  | cons x_7 l_6 =>
   obtain ⟨c_,hc_14,hL_15⟩:=bind_some hL_15
   refine af (aa (ae (vB (decide ((k_5:Int)<(r_3.length:Int)))) wz rfl (ak ?_)))
   refine af (aB rfl (bz hD_8) (av ?_))
   unfold kJ at hc_14
   refine af (aG (af (aa (dP xN rfl rfl (bE hD_8) rfl wz (bO nY zB rfl (.d (.agg (Rect.enc x_7))) rfl wz (dA 0 (.inl rfl) Fv rfl wz (λn_18=>dX 0 il ft 1 nY rfl rfl [(vI x_7.X),(vI x_7.Y),(vI x_7.W),(vI x_7.H)] rfl wz (ak (aa (ae (gV n_13 1 s_10) wz rfl (aF qJ rfl 1 rfl wz (aC 0 1 il ft sz3 ag3 rfl rfl (vI x_7.Y) rfl wz (aF qJ rfl 1 rfl wz (aC 0 1 il ft sz3 ag3 rfl rfl (vI x_7.Y) rfl wz (aF yf rfl 3 rfl wz (aC 0 1 il ft sz3 ag3 rfl rfl (vI x_7.H) rfl wz (ae (vI (w64 (x_7.Y+x_7.H))) wz rfl (eO (([x_7.Y,(w64 (x_7.Y+x_7.H))]:List Int).map eI) kE xE rfl rfl rfl rfl rfl wz ?_))))))))))))))))))
   obtain ⟨a_19,hz_20,hc_14⟩:=bind_some hc_14
   refine jH 0 il ft (i:=0) GG GG sz3 z3 rfl (by decide) by3 (by decide) (λ_=>rfl) rfl rfl rfl hz_20 wz (λn_21=>ae (gV n_21 1 a_19) wz rfl (ak (aa (eQ (bB hD_8 hn_9) wz rfl (ae (vI ((k_5+1:Nat):Int)) wz rfl (ak ?_))))))
   obtain rfl:=aj hc_14
   exact aY (k_5+1,l_6,a_19,n_21) ⟨hL_15,aR hD_8⟩ (ls_ _) rfl (aK rfl)
 ·rintro ⟨s_10,n_13⟩ ho_ sl_ H_ hp_ hq_
  subst ho_
  refine aM _ hp_ hq_ (af (aa (ae (gV n_13 1 s_10) wz rfl ?_)))
  obtain ⟨r_22,hr_23,hF⟩:=bind_some hF
  obtain ⟨_,hs_24,hF⟩:=bind_some hF
  replace hs_24:=xQ hs_24
  refine xW 0 [] 0 0 il ft (qA hr_23) rfl hb124 rfl rfl rfl (by kernel_rfl) rfl (.inl rfl) rfl (by kernel_rfl) (by kernel_rfl) (by kernel_rfl) (by kernel_rfl) rfl (by decide) (by kernel_rfl) zT (IV hs_24) wz ([(n_13,gB 1 eI r_22)]:Hp) (by kernel_rfl) (kG (v':=(gV n_13 1 r_22)) 36 rfl (qY hs_24.symm) (kG (v':=(gV n_13 1 r_22)) 5 rfl (qY hs_24.symm) (ak (af (aa (ae (gV n_13 1 r_22) wz rfl ?_))))))
  obtain ⟨r_25,hr_26,hF⟩:=bind_some hF
  refine xW 0 [] 0 0 il ft (oF hr_26) rfl hb125 rfl rfl rfl (by kernel_rfl) rfl (.inl rfl) rfl (by kernel_rfl) (by kernel_rfl) (by kernel_rfl) (by kernel_rfl) rfl (by decide) (by kernel_rfl) AL (λ_=>rfl) wz ([(n_13,none)]:Hp) (by kernel_rfl) (ae (vL eI r_25) wz rfl (ak (af (aa (ae .nil wz rfl (ak (af (aa (ae .nil wz rfl (ak (af (aa (ae (vI 0) wz rfl (ak (af (af (aa (ae (vL eI r_25) wz rfl (bJ qi rfl wz (ae (vI 0) wz rfl (ak (Iz Run.enc 9 rfl (kZ (λn_33 => ?_))))))))))))))))))))))))
  obtain ⟨o_38,hj_39,hF⟩:=bind_some hF
  obtain ⟨hn_31,hj_39⟩:=bg hj_39
  refine aH (β:=((List Rect)×(List Run)×Int)×Nm) (λp=>(λ(s_32:(List Rect)×(List Run)×Int) (n_35:Nm)=>([(8,(gV n_35 4 s_32.1))]:SL_)) p.1 p.2) (λp=>(λ(s_32:(List Rect)×(List Run)×Int) (n_35:Nm)=>([(n_13,none),(n_35,gB 4 Rect.enc s_32.1)]:Hp)) p.1 p.2) (λp=>o_38 = .go p.1) ?_ ?_
  ·refine aG (bv (β:=Nat×(List Int)×((List Rect)×(List Run)×Int)×Nm) (λp=>(λ(k_27:Nat) (l_28:List Int) (s_32:(List Rect)×(List Run)×Int) (n_35:Nm)=>([(0,(vL Rect.enc l_1)),(1,(vL Rect.enc m_2)),(5,(vL eI r_25)),(8,(gV n_35 4 s_32.1)),(9,(vL Run.enc s_32.2.1)),(10,(vI s_32.2.2)),(40,(vL eI r_25)),(41,(vI (r_25.length:Int))),(42,(vI (k_27:Int)))]:SL_)) p.1 p.2.1 p.2.2.1 p.2.2.2) (λp=>(λ(k_27:Nat) (l_28:List Int) (s_32:(List Rect)×(List Run)×Int) (n_35:Nm)=>([(n_13,none),(n_35,gB 4 Rect.enc s_32.1)]:Hp)) p.1 p.2.1 p.2.2.1 p.2.2.2) (λp=>forR (λk x s=>jf r_25 l_1 m_2 k x s) p.2.1 p.1 p.2.2.1=some o_38/\(r_25).drop p.1=p.2.1) (λp=>p.2.1.length) (0,r_25,(([]:List Rect),([]:List Run),0),n_33) ⟨hj_39,rfl⟩ rfl (aK rfl) ?_)
   rintro ⟨k_27,l_28,s_32,n_35⟩ ⟨hL_37,hD_30⟩
   dsimp only at hL_37 hD_30
   cases l_28 with
   | nil =>
    obtain rfl:=aj hL_37
    refine af (aa (ae (vB (decide ((k_27:Int)<(r_25.length:Int)))) wz rfl (ak ?_)))
    refine af (aA rfl (drop_nil hD_30) (aX ?_))
    exact aS (s_32,n_35) rfl rfl (aK rfl)
   | cons x_29 l_28 =>
    obtain ⟨c_,hc_36,hL_37⟩:=bind_some hL_37
    refine af (aa (ae (vB (decide ((k_27:Int)<(r_25.length:Int)))) wz rfl (ak ?_)))
    refine af (aB rfl (bz hD_30) (av ?_))
    unfold jf at hc_36
    refine af (aG (af (aa (ae (vI (k_27:Int)) wz rfl (dP kE rfl rfl (bE hD_30) rfl wz (bO sz3 ag3 rfl (vI x_29) rfl wz (ae (vI (k_27:Int)) wz rfl (ae (vI x_29) wz rfl (ak (af (aa (ae .nil wz rfl (ak (af (af (aa (ae (vI (k_27:Int)) wz rfl (ae (vI (w64 ((k_27:Int)+1))) wz rfl (ae (vL eI r_25) wz rfl (bJ qi rfl wz (ae (vB (decide ((w64 ((k_27:Int)+1))<(r_25.length:Int)))) wz rfl (ak (Iz Run.enc 13 rfl ?_)))))))))))))))))))))))
    obtain ⟨v_42,h_43,hc_36⟩:=bind_some hc_36
    refine aH (β:=Unit) (λ_=>([(0,(vL Rect.enc l_1)),(1,(vL Rect.enc m_2)),(5,(vL eI r_25)),(8,(gV n_35 4 s_32.1)),(9,(vL Run.enc s_32.2.1)),(10,(vI s_32.2.2)),(12,(vI x_29)),(13,(vL Run.enc v_42)),(40,(vL eI r_25)),(41,(vI (r_25.length:Int))),(42,(vI (k_27:Int)))]:SL_)) (λ_=>([(n_13,none),(n_35,gB 4 Rect.enc s_32.1)]:Hp)) (λ_=>True) ?_ ?_
    ·rcases au h_43 with⟨hc_44,h_43⟩|⟨hc_44,h_43⟩
     ·refine aB rfl hc_44 (aa (ae (vL Rect.enc l_1) wz rfl (ae (vI x_29) wz rfl ?_)))
      obtain ⟨r_45,hr_46,h_43⟩:=bind_some h_43
      refine aD (vo hr_46) rfl hb157 rfl rfl rfl rfl wz (ae (vL Rect.enc m_2) wz rfl (ae (vI x_29) wz rfl ?_))
      obtain ⟨r_47,hr_48,h_43⟩:=bind_some h_43
      refine aD (vo hr_48) rfl hb157 rfl rfl rfl rfl wz ?_
      obtain ⟨r_49,hr_50,h_43⟩:=bind_some h_43
      refine aD (BN hr_50) rfl hb156 rfl rfl rfl rfl wz (ae (vL Run.enc r_49) wz rfl (ak ?_))
      obtain rfl:=aj h_43
      exact cu
     ·refine aA rfl hc_44 (av ?_)
      obtain rfl:=aj h_43
      exact cu
    ·rintro ⟨⟩ _ sl_ H_ hp_ hq_
     refine aM _ hp_ hq_ (af (af (aa (ae (vL Run.enc s_32.2.1) wz rfl (ae (vL Run.enc v_42) wz rfl ?_)))))
     obtain ⟨r_51,hr_52,hc_36⟩:=bind_some hc_36
     refine aD (kM hr_52) rfl hb158 rfl rfl rfl rfl wz (ak ?_)
     rcases au hc_36 with⟨hc_53,hc_36⟩|⟨hc_53,hc_36⟩
     ·refine aB rfl hc_53 (aX (aa (eQ (bB hD_30 hn_31) wz rfl (ae (vI ((k_27+1:Nat):Int)) wz rfl (ak ?_)))))
      obtain rfl:=aj hc_36
      exact aY (k_27+1,l_28,(s_32.1,s_32.2.1,s_32.2.2),n_35) ⟨hL_37,aR hD_30⟩ (ls_ _) rfl (aK rfl)
     ·refine aA rfl hc_53 (av (af (af (aa (ae (vL Run.enc s_32.2.1) wz rfl (bJ wN rfl wz (ae (vI 0) wz rfl (ak ?_))))))))
      obtain ⟨o_64,hj_65,hc_36⟩:=bind_some hc_36
      obtain ⟨hn_58,hj_65⟩:=bg hj_65
      refine aH (β:=((List Rect))×Nm) (λp=>(λ(s_59:List Rect) (n_61:Nm)=>([(0,(vL Rect.enc l_1)),(1,(vL Rect.enc m_2)),(5,(vL eI r_25)),(8,(gV n_61 4 s_59)),(12,(vI x_29)),(13,(vL Run.enc v_42)),(40,(vL eI r_25)),(41,(vI (r_25.length:Int))),(42,(vI (k_27:Int)))]:SL_)) p.1 p.2) (λp=>(λ(s_59:List Rect) (n_61:Nm)=>([(n_13,none),(n_61,gB 4 Rect.enc s_59)]:Hp)) p.1 p.2) (λp=>o_64 = .go p.1) ?_ ?_
      ·refine aG (bv (β:=Nat×(List Run)×((List Rect))×Nm) (λp=>(λ(k_54:Nat) (l_55:List Run) (s_59:List Rect) (n_61:Nm)=>([(0,(vL Rect.enc l_1)),(1,(vL Rect.enc m_2)),(5,(vL eI r_25)),(8,(gV n_61 4 s_59)),(10,(vI s_32.2.2)),(12,(vI x_29)),(13,(vL Run.enc v_42)),(40,(vL eI r_25)),(41,(vI (r_25.length:Int))),(42,(vI (k_27:Int))),(62,(vL Run.enc s_32.2.1)),(63,(vI (s_32.2.1.length:Int))),(64,(vI (k_54:Int)))]:SL_)) p.1 p.2.1 p.2.2.1 p.2.2.2) (λp=>(λ(k_54:Nat) (l_55:List Run) (s_59:List Rect) (n_61:Nm)=>([(n_13,none),(n_61,gB 4 Rect.enc s_59)]:Hp)) p.1 p.2.1 p.2.2.1 p.2.2.2) (λp=>forR (λk x s=>kN s_32 x_29 k x s) p.2.1 p.1 p.2.2.1=some o_64/\(s_32.2.1).drop p.1=p.2.1) (λp=>p.2.1.length) (0,s_32.2.1,s_32.1,n_35) ⟨hj_65,rfl⟩ rfl (aK rfl) ?_)
       rintro ⟨k_54,l_55,s_59,n_61⟩ ⟨hL_63,hD_57⟩
       dsimp only at hL_63 hD_57
       cases l_55 with
       | nil =>
        obtain rfl:=aj hL_63
        refine af (aa (ae (vB (decide ((k_54:Int)<(s_32.2.1.length:Int)))) wz rfl (ak ?_)))
        refine af (aA rfl (drop_nil hD_57) (aX ?_))
        exact aS (s_59,n_61) rfl rfl (aK rfl)
       | cons x_56 l_55 =>
        obtain ⟨c_,hc_62,hL_63⟩:=bind_some hL_63
        refine af (aa (ae (vB (decide ((k_54:Int)<(s_32.2.1.length:Int)))) wz rfl (ak ?_)))
        refine af (aB rfl (bz hD_57) (av ?_))
        unfold kN at hc_62
        refine af (aG (af (aa (dP jS rfl rfl (bE hD_57) rfl wz (bO lW uJ rfl (.d (.agg (Run.enc x_56))) rfl wz (dA 0 (.inl rfl) z210 rfl wz (λn_66=>dX 0 il ft 2 lW rfl rfl [(vI x_56.f_from),(vI x_56.f_to)] rfl wz (ak (aa (ae (gV n_61 4 s_59) wz rfl (aF jQ rfl 0 rfl wz (aC 0 2 il ft sz3 ag3 rfl rfl (vI x_56.f_from) rfl wz (ae (vI s_32.2.2) wz rfl (aF o8 rfl 1 rfl wz (aC 0 2 il ft sz3 ag3 rfl rfl (vI x_56.f_to) rfl wz (aF jQ rfl 0 rfl wz (aC 0 2 il ft sz3 ag3 rfl rfl (vI x_56.f_from) rfl wz (ae (vI (w64 (x_56.f_to-x_56.f_from))) wz rfl (ae (vI x_29) wz rfl (ae (vI s_32.2.2) wz rfl (ae (vI (w64 (x_29-s_32.2.2))) wz rfl (ae (.d (.agg (Rect.enc (⟨x_56.f_from,s_32.2.2,(w64 (x_56.f_to-x_56.f_from)),(w64 (x_29-s_32.2.2))⟩:Rect)))) wz (by kernel_rfl) (eO (([(⟨x_56.f_from,s_32.2.2,(w64 (x_56.f_to-x_56.f_from)),(w64 (x_29-s_32.2.2))⟩:Rect)]:List Rect).map Rect.enc) xN K3 rfl rfl rfl rfl rfl wz ?_)))))))))))))))))))))))
        obtain ⟨a_67,hz_68,hc_62⟩:=bind_some hc_62
        refine jH 0 il ft (i:=1) BX BX nY Fv rfl (by decide) JU (by decide) (λ_=>rfl) rfl rfl rfl hz_68 wz (λn_69=>ae (gV n_69 4 a_67) wz rfl (ak (aa (eQ (bB hD_57 hn_58) wz rfl (ae (vI ((k_54+1:Nat):Int)) wz rfl (ak ?_))))))
        obtain rfl:=aj hc_62
        exact aY (k_54+1,l_55,a_67,n_69) ⟨hL_63,aR hD_57⟩ (ls_ _) rfl (aK rfl)
      ·rintro ⟨s_59,n_61⟩ ho_ sl_ H_ hp_ hq_
       subst ho_
       refine aM _ hp_ hq_ (aa (ae (vL Run.enc v_42) wz rfl (ae (vI x_29) wz rfl (ae (vL Run.enc v_42) wz rfl (ae (vI x_29) wz rfl (ak (aa (eQ (bB hD_30 hn_31) wz rfl (ae (vI ((k_27+1:Nat):Int)) wz rfl (ak ?_))))))))))
       obtain rfl:=aj hc_36
       exact aY (k_27+1,l_28,(s_59,v_42,x_29),n_61) ⟨hL_37,aR hD_30⟩ (ls_ _) rfl (aK rfl)
  ·rintro ⟨s_32,n_35⟩ ho_ sl_ H_ hp_ hq_
   subst ho_
   refine aM _ hp_ hq_ (af (aa (ae (gV n_35 4 s_32.1) wz rfl (ae (gV n_35 4 s_32.1) wz rfl (ak (fB 1 rfl (ek 4 1 rfl rfl (ek 8 1 rfl rfl (ek 87 1 rfl rfl ?_)))))))))
   obtain rfl:=aj hF
   exact ay (aO (.inr rfl) [(vL Rect.enc s_32.1)] ⟨rfl,trivial⟩ rfl rfl rfl)
theorem BD {l_1:(List Rect)} {r:Int} (hF:qI l_1=some r) :
  FnM Tryz.prog 105 [(vL Rect.enc l_1)] [] (vI r) []:=by
 refine FnM.of_wH ⟨Tryz.prog,21,[],[]⟩ rfl Tryz.func105 rfl rfl (lb_ rfl) (by kernel_rfl) ?_
 unfold qI at hF
 refine af (aa (ae (vI 0) wz rfl (ak (af (aa (ae (vI 0) wz rfl (ak (af (af (aa (ae (vL Rect.enc l_1) wz rfl (bJ rM rfl wz (ae (vI 0) wz rfl (ak ?_))))))))))))))
 obtain ⟨o_10,hj_11,hF⟩:=bind_some hF
 obtain ⟨hn_6,hj_11⟩:=bg hj_11
 refine aH (β:=(Int)) (λ(s_7:Int)=>([(3,(vI s_7))]:SL_)) (λ(s_7:Int)=>([]:Hp)) (λp=>o_10 = .go p) ?_ ?_
 ·refine aG (bv (β:=Nat×(List Rect)×(Int)) (λp=>(λ(k_2:Nat) (l_3:List Rect) (s_7:Int)=>([(3,(vI s_7)),(6,(vL Rect.enc l_1)),(7,(vI (l_1.length:Int))),(8,(vI (k_2:Int)))]:SL_)) p.1 p.2.1 p.2.2) (λp=>(λ(k_2:Nat) (l_3:List Rect) (s_7:Int)=>([]:Hp)) p.1 p.2.1 p.2.2) (λp=>forR (λk x s=>qg k x s) p.2.1 p.1 p.2.2=some o_10/\(l_1).drop p.1=p.2.1) (λp=>p.2.1.length) (0,l_1,0) ⟨hj_11,rfl⟩ rfl (aK rfl) ?_)
  rintro ⟨k_2,l_3,s_7⟩ ⟨hL_9,hD_5⟩
  dsimp only at hL_9 hD_5
  cases l_3 with
  | nil =>
   obtain rfl:=aj hL_9
   refine af (aa (ae (vB (decide ((k_2:Int)<(l_1.length:Int)))) wz rfl (ak ?_)))
   refine af (aA rfl (drop_nil hD_5) (aX ?_))
   exact aS (s_7) rfl rfl (aK rfl)
  | cons x_4 l_3 =>
   obtain ⟨c_,hc_8,hL_9⟩:=bind_some hL_9
   refine af (aa (ae (vB (decide ((k_2:Int)<(l_1.length:Int)))) wz rfl (ak ?_)))
   refine af (aB rfl (bz hD_5) (av ?_))
   unfold qg at hc_8
   refine af (aG (af (aa (dP xN rfl rfl (bE hD_5) rfl wz (bO nY zB rfl (.d (.agg (Rect.enc x_4))) rfl wz (dA 0 (.inl rfl) Fv rfl wz (λn_12=>dX 0 il ft 0 nY rfl rfl [(vI x_4.X),(vI x_4.Y),(vI x_4.W),(vI x_4.H)] rfl wz (ak (aa (ae (vI s_7) wz rfl (aF AB rfl 2 rfl wz (aC 0 0 il ft sz3 ag3 rfl rfl (vI x_4.W) rfl wz (aF yf rfl 3 rfl wz (aC 0 0 il ft sz3 ag3 rfl rfl (vI x_4.H) rfl wz (ae (vI (w64 (x_4.W*x_4.H))) wz rfl (ae (vI (w64 (s_7+(w64 (x_4.W*x_4.H))))) wz rfl (ae (vI (w64 (s_7+(w64 (x_4.W*x_4.H))))) wz rfl (ak (aa (eQ (bB hD_5 hn_6) wz rfl (ae (vI ((k_2+1:Nat):Int)) wz rfl (ak ?_))))))))))))))))))))))
   obtain rfl:=aj hc_8
   exact aY (k_2+1,l_3,(w64 (s_7+(w64 (x_4.W*x_4.H))))) ⟨hL_9,aR hD_5⟩ (ls_ _) rfl (aK rfl)
 ·rintro s_7 ho_ sl_ H_ hp_ hq_
  subst ho_
  refine aM _ hp_ hq_ (af (aa (ae (vI s_7) wz rfl (ae (vI s_7) wz rfl (ak ?_)))))
  obtain rfl:=aj hF
  exact ay (aO (.inr rfl) [(vI s_7)] ⟨rfl,trivial⟩ rfl rfl rfl)
theorem Cz {l_1:(List Rect)} {r:Int×Int} (hF:nW l_1=some r) :
  FnM Tryz.prog 66 [(vL Rect.enc l_1)] [] (.tup [(vI r.1),(vI r.2)]) []:=by
 refine FnM.of_wH ⟨Tryz.prog,13,[],[]⟩ rfl Tryz.func66 rfl rfl (lb_ rfl) (by kernel_rfl) ?_
 unfold nW at hF
 refine af (aa (ae (vI 0) wz rfl (ae (vI 0) wz rfl (ak (af (af (aa (ae (vL Rect.enc l_1) wz rfl ?_))))))))
 obtain ⟨r_2,hr_3,hF⟩:=bind_some hF
 refine aD (uP hr_3) rfl hb104 rfl rfl rfl rfl wz (ae (vI r_2) wz rfl (ak (af (aa (ae (vI r_2) wz rfl (ae (vB (r_2 != 0)) wz rfl (ak ?_)))))))
 rcases au hF with⟨hc_4,hF⟩|⟨hc_4,hF⟩
 ·refine aB rfl hc_4 (af (aa (ae (vI r_2) wz rfl (ae (vI 0) wz rfl (ae (vI r_2) wz rfl (ak ?_))))))
  obtain rfl:=aj hF
  exact ay (aO (.inr rfl) [(vI 0),(vI r_2)] ⟨rfl,⟨rfl,trivial⟩⟩ rfl rfl rfl)
 ·refine aA rfl hc_4 (av (af (aa (ae (vL Rect.enc l_1) wz rfl ?_))))
  obtain ⟨r_5,hr_6,hF⟩:=bind_some hF
  refine aD (zg hr_6) rfl hb106 rfl rfl rfl rfl wz ?_
  obtain ⟨r_7,hr_8,hF⟩:=bind_some hF
  refine aD (BD hr_8) rfl hb105 rfl rfl rfl rfl wz (ae (vI r_7) wz rfl (ae (vI 0) wz rfl (ak ?_)))
  obtain rfl:=aj hF
  exact ay (aO (.inr rfl) [(vI r_7),(vI 0)] ⟨rfl,⟨rfl,trivial⟩⟩ rfl rfl rfl)
end Go.Proofs.YtnjnggakgeommaaGreatDoor.Law

