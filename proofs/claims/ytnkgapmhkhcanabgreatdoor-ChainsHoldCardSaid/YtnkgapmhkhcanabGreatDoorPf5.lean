/-
 The machine computes these plain functions (written by a program of ours).
-/
import Derived.Test.YtnkgapmhkhcanabGreatDoorFacts
import Derived.Test.YtnkgapmhkhcanabGreatDoorDefs
import Derived.Test.YtnkgapmhkhcanabGreatDoorPf4
import Derived.Test.YtnkgapmhkhcanabGreatDoorShelf
open Go Go.Eng Go.Proofs
namespace Go.Proofs.YtnkgapmhkhcanabGreatDoor.Law
set_option maxRecDepth 100000
set_option linter.unusedVariables false
set_option maxHeartbeats 1000000
theorem xX {l_1:(List Beat)} {r:Int} (hF:jJ l_1=some r) :
  FnM Tryz.prog 97 [(vL Beat.enc l_1)] [] (vI r) []:=by
 refine FnM.of_wH ⟨Tryz.prog,69,[],[]⟩ rfl Tryz.func97 rfl rfl (lb_ rfl) (by kernel_rfl) ?_
 unfold jJ at hF
 refine ai (aa (vI 0) (ah (ak (ai (aa (vL Beat.enc l_1) (bG un93 rfl wz (aa (vB (decide ((l_1.length:Int)>500))) (ah ?_))))))))
 rcases aj hF with⟨hc_2,hF⟩|⟨hc_2,hF⟩
 ·refine aA rfl hc_2 (ai (aa (vI 2) (ah ?_)))
  obtain rfl:=ae hF
  exact ay (aK [(vI 2)] ⟨rfl,trivial⟩)
 ·refine ax rfl hc_2 (av (ak (ai (aa (vL Beat.enc l_1) (bG un93 rfl wz (aa (vI 0) (ah ?_)))))))
  obtain ⟨o_11,hj_12,hF⟩:=bind_some hF
  obtain ⟨hn_7,hj_12⟩:=bg hj_12
  refine cK (λ(s_8:Unit)=>[]) (λ(s_8:Unit)=>[]) (λ(k_3:Nat)=>(λ(s_8:Unit)=>[(0,(vL Beat.enc l_1)),(8,(vL Beat.enc l_1)),(9,(vI (l_1.length:Int))),(10,(vI (k_3:Int)))])) (λk x s=>gY l_1 k x s) o_11 l_1 () hj_12 rfl (aI rfl) ?_ ?_
  ·rintro ⟨k_3,l_4,s_8⟩ ⟨hL_10,hD_6⟩
   dsimp only at hL_10 hD_6
   cases l_4 with
   | nil =>
    obtain rfl:=ae hL_10
    refine ai (aa (vB (decide ((k_3:Int)<(l_1.length:Int)))) (ah ?_))
    refine ak (ax rfl (drop_nil hD_6) (aV ?_))
    exact aU (s_8) rfl rfl (aI rfl)
   | cons x_5 l_4 =>
    obtain ⟨c_,hc_9,hL_10⟩:=bind_some hL_10
    refine ai (aa (vB (decide ((k_3:Int)<(l_1.length:Int)))) (ah ?_))
    refine ak (aA rfl (bz hD_6) (av ?_))
    unfold gY at hc_9
    refine ak (aN (ai (aa (vI (k_3:Int)) (dB LU rfl rfl (bK hD_6) rfl wz (bA LJ ag92 rfl (.d (.agg (Beat.enc x_5))) rfl wz (dK 0 (.inl rfl) z92 rfl wz (λn_13=>aa (vI (k_3:Int)) (gP 0 il ft 0 LJ rfl rfl (Beat.v x_5) rfl wz (ah (aN (ai (aJ zS rfl 0 rfl wz (aH 0 0 il ft sz9 ag9 rfl rfl (vS x_5.Player) rfl wz ?_)))))))))))))
    obtain ⟨r_14,hr_15,hc_9⟩:=bind_some hc_9
    refine aB (eD hr_15) rfl AQ rfl rfl rfl rfl wz (aa (vB (!r_14)) (aa (vB (!r_14)) (ah ?_)))
    rcases aj hc_9 with⟨hc_16,hc_9⟩|⟨hc_16,hc_9⟩
    ·refine aA rfl hc_16 (ai (aa (vI 5) (ah ?_)))
     obtain rfl:=ae hc_9
     obtain rfl:=ae hL_10
     obtain rfl:=ae hF
     exact ay (aK [(vI 5)] ⟨rfl,trivial⟩)
    ·refine ax rfl hc_16 (ak ?_)
     obtain ⟨v_17,h_18,hc_9⟩:=bind_some hc_9
     refine aM [(0,(vL Beat.enc l_1)),(3,(vI (k_3:Int))),(4,(.ref n_13 0 0)),(8,(vL Beat.enc l_1)),(9,(vI (l_1.length:Int))),(10,(vI (k_3:Int))),(20,(vB v_17))] [(n_13,some (.cells 3 (Beat.v x_5)))] ?_ ?_
     ·refine au (aJ DF rfl 1 rfl wz (aH 0 0 il ft sz3 ag3 rfl rfl (vI x_5.At) rfl wz ?_))
      obtain ⟨r_19,hr_20,h_18⟩:=bind_some h_18
      refine aB (gU hr_20) rfl JX rfl rfl rfl rfl wz (aa (vB (!r_19)) ?_)
      rcases aj h_18 with⟨hc_21,h_18⟩|⟨hc_21,h_18⟩
      ·refine aC rfl hc_21 wz (af (af (af (aa (vB true) (aa (vB true) (ah ?_))))))
       obtain rfl:=ae h_18
       exact cu
      ·refine aC rfl hc_21 wz (aJ Ct rfl 2 rfl wa (aH 0 0 il ft sz3 ag3 rfl rfl (vI x_5.Clock) rfl wa ?_))
       obtain ⟨r_22,hr_23,h_18⟩:=bind_some h_18
       refine aB (aW hr_23) rfl pU rfl rfl rfl rfl wa (aa (vB r_22) (aa (vB r_22) (ah ?_)))
       obtain rfl:=ae h_18
       exact cu
     ·rintro ⟨⟩ _ sl_ H_ hp_ hq_
      refine aO _ hp_ hq_ ?_
      rcases aj hc_9 with⟨hc_24,hc_9⟩|⟨hc_24,hc_9⟩
      ·refine aA rfl hc_24 (ai (aa (vI 1) (ah ?_)))
       obtain rfl:=ae hc_9
       obtain rfl:=ae hL_10
       obtain rfl:=ae hF
       exact ay (aK [(vI 1)] ⟨rfl,trivial⟩)
      ·refine ax rfl hc_24 (ak ?_)
       obtain ⟨v_25,h_26,hc_9⟩:=bind_some hc_9
       refine aM [(0,(vL Beat.enc l_1)),(3,(vI (k_3:Int))),(4,(.ref n_13 0 0)),(8,(vL Beat.enc l_1)),(9,(vI (l_1.length:Int))),(10,(vI (k_3:Int))),(30,(vB v_25))] [(n_13,some (.cells 3 (Beat.v x_5)))] ?_ ?_
       ·refine aZ (aa (vI (k_3:Int)) (aa (vB (decide ((k_3:Int)>0))) ?_))
        rcases aj h_26 with⟨hc_27,h_26⟩|⟨hc_27,h_26⟩
        ·refine aC rfl hc_27 wz (aG (vL Beat.enc l_1) wa rfl (aG (vI (k_3:Int)) wa rfl (aG (vI (w64 ((k_3:Int)-1))) wa rfl ?_)))
         obtain ⟨y_28,hy_29,h_26⟩:=bind_some h_26
         refine dB LU rfl rfl hy_29 rfl wa (bA LJ ag92 rfl (.d (.agg (Beat.enc y_28))) rfl wa (aH 8 0 (.inr (by kernel_rfl)) (λ_ _ ag=>trivial) LJ ag92 rfl rfl (.d (.agg (Beat.enc x_5))) rfl wa ?_))
         obtain ⟨r_30,hr_31,h_26⟩:=bind_some h_26
         refine aB (wG hr_31) rfl hb131 rfl rfl rfl rfl wa (aG (vB (decide (r_30>=0))) wa rfl (aa (vB (decide (r_30>=0))) (aa (vB (decide (r_30>=0))) (ah ?_))))
         obtain rfl:=ae h_26
         exact cu
        ·refine aC rfl hc_27 wz (af (af (af (af (af (af (af (af (aa (vB false) (aa (vB false) (ah ?_)))))))))))
         obtain rfl:=ae h_26
         exact cu
       ·rintro ⟨⟩ _ sl_ H_ hp_ hq_
        refine aO _ hp_ hq_ ?_
        rcases aj hc_9 with⟨hc_32,hc_9⟩|⟨hc_32,hc_9⟩
        ·refine aA rfl hc_32 (ai (aa (vI 7) (ah ?_)))
         obtain rfl:=ae hc_9
         obtain rfl:=ae hL_10
         obtain rfl:=ae hF
         exact ay (aK [(vI 7)] ⟨rfl,trivial⟩)
        ·refine ax rfl hc_32 (ak ?_)
         obtain ⟨v_33,h_34,hc_9⟩:=bind_some hc_9
         refine aM [(0,(vL Beat.enc l_1)),(8,(vL Beat.enc l_1)),(9,(vI (l_1.length:Int))),(10,(vI (k_3:Int))),(43,(vB v_33))] [(n_13,some (.cells 3 (Beat.v x_5)))] ?_ ?_
         ·refine aZ (aa (vI (k_3:Int)) (aa (vB (decide ((k_3:Int)>0))) ?_))
          rcases aj h_34 with⟨hc_35,h_34⟩|⟨hc_35,h_34⟩
          ·refine aC rfl hc_35 wz (aJ zS rfl 0 rfl wa (aH 4 0 (.inr (by kernel_rfl)) (λ_ _ ag=>trivial) sz9 ag9 rfl rfl (vS x_5.Player) rfl wa (aG (vL Beat.enc l_1) wa rfl (aG (vI (k_3:Int)) wa rfl (aG (vI (w64 ((k_3:Int)-1))) wa rfl ?_)))))
           obtain ⟨y_36,hy_37,h_34⟩:=bind_some h_34
           refine dB LU rfl rfl hy_37 rfl wa (lK zS rfl [.str y_36.Player,.int .i64 y_36.At,.int .i64 y_36.Clock] rfl rfl wa (bA sz9 ag9 rfl (vS y_36.Player) rfl wa (aG (vB (sEq x_5.Player y_36.Player)) wa rfl (aa (vB (sEq x_5.Player y_36.Player)) ?_))))
           rcases aj h_34 with⟨hc_38,h_34⟩|⟨hc_38,h_34⟩
           ·refine aC rfl hc_38 wz (aJ Ct rfl 2 rfl wa (aH 15 0 (.inr (by kernel_rfl)) (λ_ _ ag=>⟨.inl ⟨rfl,rfl⟩,trivial⟩) sz3 ag3 rfl rfl (vI x_5.Clock) rfl wa (aG (vL Beat.enc l_1) wa rfl (aG (vI (k_3:Int)) wa rfl (aG (vI (w64 ((k_3:Int)-1))) wa rfl ?_)))))
            obtain ⟨y_39,hy_40,h_34⟩:=bind_some h_34
            refine dB LU rfl rfl hy_40 rfl wa (lK Ct rfl [.int .i64 y_39.Clock] rfl rfl wa (bA sz3 ag3 rfl (vI y_39.Clock) rfl wa (aG (vB (decide (x_5.Clock<=y_39.Clock))) wa rfl (aa (vB (decide (x_5.Clock<=y_39.Clock))) (aa (vB (decide (x_5.Clock<=y_39.Clock))) (ah ?_))))))
            obtain rfl:=ae h_34
            exact cu
           ·refine aC rfl hc_38 wz (af (af (af (af (af (af (af (af (af (aa (vB false) (aa (vB false) (ah ?_))))))))))))
            obtain rfl:=ae h_34
            exact cu
          ·refine aC rfl hc_35 wz (af (af (af (af (af (af (af (af (af (aa (vB false) (aa (vB false) (af (af (af (af (af (af (af (af (af (aa (vB false) (aa (vB false) (ah ?_)))))))))))))))))))))))
           obtain rfl:=ae h_34
           exact cu
         ·rintro ⟨⟩ _ sl_ H_ hp_ hq_
          refine aO _ hp_ hq_ ?_
          rcases aj hc_9 with⟨hc_41,hc_9⟩|⟨hc_41,hc_9⟩
          ·refine aA rfl hc_41 (ai (aa (vI 16) (ah ?_)))
           obtain rfl:=ae hc_9
           obtain rfl:=ae hL_10
           obtain rfl:=ae hF
           exact ay (aK [(vI 16)] ⟨rfl,trivial⟩)
          ·refine ax rfl hc_41 (av (au (fq (bH hD_6 hn_7) wz rfl (aa (vI ((k_3+1:Nat):Int)) (ah ?_)))))
           obtain rfl:=ae hc_9
           exact aS (k_3+1,l_4,()) ⟨hL_10,aR hD_6⟩ (ls_ _) rfl (aI rfl)
  ·rintro s_8 ho_ sl_ H_ hp_ hq_
   subst ho_
   refine aO _ hp_ hq_ (ai (aa (vI 0) (ah ?_)))
   obtain rfl:=ae hF
   exact ay (aK [(vI 0)] ⟨rfl,trivial⟩)
theorem zV {l_1:(List Beat)} {player_2:ByteArray} {back_3:Bool} {r:(List Beat_)} (hF:oV l_1 player_2 back_3=some r) :
  FnM Tryz.prog 99 [(vL Beat.enc l_1),(vS player_2),(vB back_3)] [] (vL Beat_.enc r) []:=by
 refine FnM.of_wH ⟨Tryz.prog,41,[],[]⟩ rfl Tryz.func99 rfl rfl (lb_ rfl) (by kernel_rfl) ?_
 unfold oV at hF
 refine ai (aa .nil (ah (ai (aa .nil (ah (ak (ai (aa (vL Beat.enc l_1) (bG un93 rfl wz (aa (vI 0) (ah (oJ (λn_10 => ?_)))))))))))))
 obtain ⟨o_15,hj_16,hF⟩:=bind_some hF
 obtain ⟨hn_8,hj_16⟩:=bg hj_16
 refine jc (σ:=(List Beat_)) (N:=Nm) (λp=>(λ(s_9:List Beat_) (n_12:Nm)=>([(7,(gV n_12 2 s_9))]:SL_)) p.1 p.2) (λp=>(λ(s_9:List Beat_) (n_12:Nm)=>([(n_12,gB 2 Beat_.enc s_9)]:Hp)) p.1 p.2) (λ(k_4:Nat)=>(λp=>(λ(s_9:List Beat_) (n_12:Nm)=>([(1,(vS player_2)),(2,(vB back_3)),(7,(gV n_12 2 s_9)),(10,(vL Beat.enc l_1)),(11,(vI (l_1.length:Int))),(12,(vI (k_4:Int)))]:SL_)) p.1 p.2)) (λk x s=>oO player_2 back_3 k x s) o_15 l_1 (([]:List Beat_),n_10) hj_16 rfl (aI rfl) ?_ ?_
 ·rintro ⟨k_4,l_5,s_9,n_12⟩ ⟨hL_14,hD_7⟩
  dsimp only at hL_14 hD_7
  cases l_5 with
  | nil =>
   obtain rfl:=ae hL_14
   refine ai (aa (vB (decide ((k_4:Int)<(l_1.length:Int)))) (ah ?_))
   refine ak (ax rfl (drop_nil hD_7) (aV ?_))
   exact aU (s_9,n_12) rfl rfl (aI rfl)
  | cons x_6 l_5 =>
   obtain ⟨c_,hc_13,hL_14⟩:=bind_some hL_14
   refine ai (aa (vB (decide ((k_4:Int)<(l_1.length:Int)))) (ah ?_))
   refine ak (aA rfl (bz hD_7) (av ?_))
   unfold oO at hc_13
   refine ak (aN (ai (dB LU rfl rfl (bK hD_7) rfl wz (bA LJ ag92 rfl (.d (.agg (Beat.enc x_6))) rfl wz (dK 0 (.inl rfl) z92 rfl wz (λn_17=>gP 0 il ft 1 LJ rfl rfl (Beat.v x_6) rfl wz (ah (aN (ai (aJ zS rfl 0 rfl wz (aH 0 1 il ft sz9 ag9 rfl rfl (vS x_6.Player) rfl wz (aa (vS player_2) (aa (vB (sNe x_6.Player player_2)) (aa (vB (sNe x_6.Player player_2)) (ah ?_)))))))))))))))
   obtain ⟨v_18,h_19,hc_13⟩:=bind_some hc_13
   refine kv (β:=Nm) (λ(n_20:Nm)=>([(1,(vS player_2)),(2,(vB back_3)),(7,(gV n_20 2 v_18)),(10,(vL Beat.enc l_1)),(11,(vI (l_1.length:Int))),(12,(vI (k_4:Int)))]:SL_)) (λ(n_20:Nm)=>([(n_20,gB 2 Beat_.enc v_18),(n_17,some (.cells 3 (Beat.v x_6)))]:Hp)) (λ_=>True) ?_ ?_
   ·rcases aj h_19 with⟨hc_21,h_19⟩|⟨hc_21,h_19⟩
    ·refine aA rfl hc_21 (av ?_)
     obtain rfl:=ae h_19
     exact aU n_12 trivial rfl (aI rfl)
    ·refine ax rfl hc_21 (ai (aa (vB back_3) (aa (vB back_3) (ah ?_))))
     rcases aj h_19 with⟨hc_22,h_19⟩|⟨hc_22,h_19⟩
     ·refine aA rfl hc_22 (au (aa (gV n_12 2 s_9) (aJ DF rfl 1 rfl wz (aH 0 1 il ft sz3 ag3 rfl rfl (vI x_6.At) rfl wz (aJ Ct rfl 2 rfl wz (aH 0 1 il ft sz3 ag3 rfl rfl (vI x_6.Clock) rfl wz (aG (.d (.agg (Beat_.enc (⟨x_6.At,x_6.Clock⟩:Beat_)))) wz (by kernel_rfl) (iK (([(⟨x_6.At,x_6.Clock⟩:Beat_)]:List Beat_).map Beat_.enc) y8 ez163 rfl rfl rfl rfl rfl wz ?_))))))))
      obtain ⟨a_23,hz_24,h_19⟩:=bind_some h_19
      refine mQ 0 il ft (i:=0) KW KW EF z192 rfl (by decide) by192 (by decide) (λ_=>rfl) rfl rfl rfl hz_24 wz (λn_25=>aa (gV n_25 2 a_23) (ah ?_))
      obtain rfl:=ae h_19
      exact aU n_25 trivial rfl (aI rfl)
     ·refine ax rfl hc_22 (au (aa (gV n_12 2 s_9) (aJ Ct rfl 2 rfl wz (aH 0 1 il ft sz3 ag3 rfl rfl (vI x_6.Clock) rfl wz (aJ DF rfl 1 rfl wz (aH 0 1 il ft sz3 ag3 rfl rfl (vI x_6.At) rfl wz (aG (.d (.agg (Beat_.enc (⟨x_6.Clock,x_6.At⟩:Beat_)))) wz (by kernel_rfl) (iK (([(⟨x_6.Clock,x_6.At⟩:Beat_)]:List Beat_).map Beat_.enc) y8 ez163 rfl rfl rfl rfl rfl wz ?_))))))))
      obtain ⟨a_26,hz_27,h_19⟩:=bind_some h_19
      refine mQ 0 il ft (i:=0) KW KW EF z192 rfl (by decide) by192 (by decide) (λ_=>rfl) rfl rfl rfl hz_27 wz (λn_28=>aa (gV n_28 2 a_26) (ah ?_))
      obtain rfl:=ae h_19
      exact aU n_28 trivial rfl (aI rfl)
   ·rintro n_20 _ sl_ H_ hp_ hq_
    refine aO _ hp_ hq_ (au (fq (bH hD_7 hn_8) wz rfl (aa (vI ((k_4+1:Nat):Int)) (ah ?_))))
    obtain rfl:=ae hc_13
    exact aS (k_4+1,l_5,v_18,n_20) ⟨hL_14,aR hD_7⟩ (ls_ _) rfl (aI rfl)
 ·rintro ⟨s_9,n_12⟩ ho_ sl_ H_ hp_ hq_
  subst ho_
  refine aO _ hp_ hq_ (ai (aa (gV n_12 2 s_9) (aa (gV n_12 2 s_9) (ah (gG 0 rfl (eT 6 0 rfl rfl (eT 7 0 rfl rfl (eT 40 0 rfl rfl ?_))))))))
  obtain rfl:=ae hF
  exact ay (aK [(vL Beat_.enc s_9)] ⟨rfl,trivial⟩)
theorem BL {l_1:(List Beat_)} {n_2:Int} {r:Int×Int} (hF:nA l_1 n_2=some r) :
  FnM Tryz.prog 98 [(vL Beat_.enc l_1),(vI n_2)] [] (.tup [(vI r.1),(vI r.2)]) []:=by
 refine FnM.of_wH ⟨Tryz.prog,108,[],[]⟩ rfl Tryz.func98 rfl rfl (lb_ rfl) (by kernel_rfl) ?_
 unfold nA at hF
 refine ai (aa (vI 0) (aa (vI 0) (ah (ak (ai (aa (vL Beat_.enc l_1) (bG MP rfl wz (aa (vB ((l_1.length:Int)==0)) (ah ?_)))))))))
 rcases aj hF with⟨hc_3,hF⟩|⟨hc_3,hF⟩
 ·refine aA rfl hc_3 (ai (aa (vI 0) (aa (vI 8) (ah ?_))))
  obtain rfl:=ae hF
  exact ay (aK [(vI 0),(vI 8)] ⟨rfl,⟨rfl,trivial⟩⟩)
 ·refine ax rfl hc_3 (av (ai (aa (vI 0) (ah (ak ?_)))))
  obtain ⟨o_12,hj_13,hF⟩:=bind_some hF
  obtain ⟨nq_51,hj_13⟩:=cB hj_13
  refine dJ (λ(s_9:Int)=>[(0,(vL Beat_.enc l_1)),(1,(vI n_2)),(6,(vI s_9))]) (λ(s_9:Int)=>[]) (λ(k_4:Nat)=>(λ(s_9:Int)=>[(0,(vL Beat_.enc l_1)),(1,(vI n_2)),(6,(vI s_9))])) (λs=>mh l_1 n_2 s) o_12 nq_51 0 hj_13 rfl (aI rfl) ?_ ?_
  ·rintro ⟨k_4,s_9⟩ hL_11
   dsimp only at hL_11
   cases k_4 with
   | zero=>cases hL_11
   | succ k_4 =>
    obtain ⟨c_,hc_10,hL_11⟩:=bind_some hL_11
    unfold mh at hc_10
    refine ak (ak ?_)
    obtain ⟨v_14,h_15,hc_10⟩:=bind_some hc_10
    refine aM [(0,(vL Beat_.enc l_1)),(1,(vI n_2)),(6,(vI s_9)),(25,(vB v_14))] [] ?_ ?_
    ·refine au (aa (vI s_9) (aa (vL Beat_.enc l_1) (bG MP rfl wz (aa (vB (decide (s_9<(l_1.length:Int)))) ?_))))
     rcases aj h_15 with⟨hc_16,h_15⟩|⟨hc_16,h_15⟩
     ·refine aC rfl hc_16 wz (aG (vL Beat_.enc l_1) wa rfl (aG (vI s_9) wa rfl ?_))
      obtain ⟨y_17,hy_18,h_15⟩:=bind_some h_15
      refine dB y8 rfl rfl hy_18 rfl wa (lK sG rfl [.int .i64 y_17.f_from,.int .i64 y_17.f_to] rfl rfl wa (bA sz3 ag3 rfl (vI y_17.f_from) rfl wa (aG (vI n_2) wa rfl (aG (vB (decide (y_17.f_from<=n_2))) wa rfl (aa (vB (decide (y_17.f_from<=n_2))) (ah ?_))))))
      obtain rfl:=ae h_15
      exact cu
     ·refine aC rfl hc_16 wz (af (af (af (af (af (af (af (aa (vB false) (ah ?_)))))))))
      obtain rfl:=ae h_15
      exact cu
    ·rintro ⟨⟩ _ sl_ H_ hp_ hq_
     refine aO _ hp_ hq_ ?_
     rcases aj hc_10 with⟨hc_19,hc_10⟩|⟨hc_19,hc_10⟩
     ·refine aA rfl hc_19 (av (aN (au (aa (vI s_9) (aa (vI (w64 (s_9+1))) (aa (vI (w64 (s_9+1))) (ah ?_)))))))
      obtain rfl:=ae hc_10
      exact aS (k_4,(w64 (s_9+1))) hL_11 (ls_ _) rfl (aI rfl)
     ·refine ax rfl hc_19 (aV ?_)
      obtain rfl:=ae hc_10
      obtain rfl:=ae hL_11
      exact aU (s_9) rfl rfl (aI rfl)
  ·rintro s_9 ho_ sl_ H_ hp_ hq_
   subst ho_
   refine aO _ hp_ hq_ (ai (aa (vI 0) (ah (ak (aN (ai (aa (vI s_9) (aa (vB (s_9==0)) (aa (vB (s_9==0)) (ah ?_))))))))))
   rcases aj hF with⟨hc_20,hF⟩|⟨hc_20,hF⟩
   ·refine aA rfl hc_20 (aZ (aa (vL Beat_.enc l_1) ?_))
    obtain ⟨y_21,hy_22,hF⟩:=bind_some hF
    refine dB y8 rfl rfl hy_22 rfl wz (lK uT rfl [.int .i64 y_21.f_to] rfl rfl wz (bA sz3 ag3 rfl (vI y_21.f_to) rfl wz (aa (vL Beat_.enc l_1) ?_)))
    obtain ⟨y_23,hy_24,hF⟩:=bind_some hF
    refine dB y8 rfl rfl hy_24 rfl wz (lK sG rfl [.int .i64 y_23.f_from,.int .i64 y_23.f_to] rfl rfl wz (bA sz3 ag3 rfl (vI y_23.f_from) rfl wz (aa (vI n_2) (aa (vI (w64 (y_23.f_from-n_2))) (aa (vI (w64 (y_21.f_to-(w64 (y_23.f_from-n_2))))) (aa (vI (w64 (y_21.f_to-(w64 (y_23.f_from-n_2))))) (ah (ak (ai (aa (vI (w64 (y_21.f_to-(w64 (y_23.f_from-n_2))))) ?_))))))))))
    obtain ⟨r_25,hr_26,hF⟩:=bind_some hF
    refine aB (gU hr_26) rfl JX rfl rfl rfl rfl wz (aa (vB (!r_25)) (ah ?_))
    rcases aj hF with⟨hc_27,hF⟩|⟨hc_27,hF⟩
    ·refine aA rfl hc_27 (ai (aa (vI 0) (aa (vI 11) (ah ?_))))
     obtain rfl:=ae hF
     exact ay (aK [(vI 0),(vI 11)] ⟨rfl,⟨rfl,trivial⟩⟩)
    ·refine ax rfl hc_27 (av (ai (aa (vI (w64 (y_21.f_to-(w64 (y_23.f_from-n_2))))) (aa (vI (w64 (y_21.f_to-(w64 (y_23.f_from-n_2))))) (aa (vI 0) (ah ?_))))))
     obtain rfl:=ae hF
     exact ay (aK [(vI (w64 (y_21.f_to-(w64 (y_23.f_from-n_2))))),(vI 0)] ⟨rfl,⟨rfl,trivial⟩⟩)
   ·refine ax rfl hc_20 (ai (aa (vI s_9) (aa (vL Beat_.enc l_1) (bG MP rfl wz (aa (vB (s_9==(l_1.length:Int))) (aa (vB (s_9==(l_1.length:Int))) (ah ?_)))))))
    rcases aj hF with⟨hc_28,hF⟩|⟨hc_28,hF⟩
    ·refine aA rfl hc_28 (aZ (aa (vL Beat_.enc l_1) (aa (vI s_9) (aa (vI (w64 (s_9-1))) ?_))))
     obtain ⟨y_29,hy_30,hF⟩:=bind_some hF
     refine dB y8 rfl rfl hy_30 rfl wz (lK uT rfl [.int .i64 y_29.f_to] rfl rfl wz (bA sz3 ag3 rfl (vI y_29.f_to) rfl wz (aa (vI n_2) (aa (vI (w64 (y_29.f_to+n_2))) (aa (vL Beat_.enc l_1) (aa (vI s_9) (aa (vI (w64 (s_9-1))) ?_)))))))
     obtain ⟨y_31,hy_32,hF⟩:=bind_some hF
     refine dB y8 rfl rfl hy_32 rfl wz (lK sG rfl [.int .i64 y_31.f_from,.int .i64 y_31.f_to] rfl rfl wz (bA sz3 ag3 rfl (vI y_31.f_from) rfl wz (aa (vI (w64 ((w64 (y_29.f_to+n_2))-y_31.f_from))) (aa (vI (w64 ((w64 (y_29.f_to+n_2))-y_31.f_from))) (ah (ak (ai (aa (vI (w64 ((w64 (y_29.f_to+n_2))-y_31.f_from))) ?_))))))))
     obtain ⟨r_33,hr_34,hF⟩:=bind_some hF
     refine aB (gU hr_34) rfl JX rfl rfl rfl rfl wz (aa (vB (!r_33)) (ah ?_))
     rcases aj hF with⟨hc_35,hF⟩|⟨hc_35,hF⟩
     ·refine aA rfl hc_35 (ai (aa (vI 0) (aa (vI 11) (ah (aO (H0:=([]:Hp)) ([(4,(vI 0)),(5,(vI 11))]:SL_) (by kernel_rfl) (Am (by kernel_rfl)) ?_)))))
      obtain rfl:=ae hF
      exact ay (aK [(vI 0),(vI 11)] ⟨rfl,⟨rfl,trivial⟩⟩)
     ·refine ax rfl hc_35 (av (ai (aa (vI (w64 ((w64 (y_29.f_to+n_2))-y_31.f_from))) (aa (vI (w64 ((w64 (y_29.f_to+n_2))-y_31.f_from))) (aa (vI 0) (ah (aO (H0:=([]:Hp)) ([(4,(vI (w64 ((w64 (y_29.f_to+n_2))-y_31.f_from)))),(5,(vI 0))]:SL_) (by kernel_rfl) (Am (by kernel_rfl)) ?_)))))))
      obtain rfl:=ae hF
      exact ay (aK [(vI (w64 ((w64 (y_29.f_to+n_2))-y_31.f_from))),(vI 0)] ⟨rfl,⟨rfl,trivial⟩⟩)
    ·refine ax rfl hc_28 (ak (aZ (aa (vL Beat_.enc l_1) (aa (vI s_9) (aa (vI (w64 (s_9-1))) ?_)))))
     obtain ⟨y_36,hy_37,hF⟩:=bind_some hF
     refine dB y8 rfl rfl hy_37 rfl wz (bA EF ag192 rfl (.d (.agg (Beat_.enc y_36))) rfl wz (aa (vL Beat_.enc l_1) (aa (vI s_9) ?_)))
     obtain ⟨y_38,hy_39,hF⟩:=bind_some hF
     refine dB y8 rfl rfl hy_39 rfl wz (bA EF ag192 rfl (.d (.agg (Beat_.enc y_38))) rfl wz (dK 9 (.inr (by kernel_rfl)) z192 rfl wz (λn_40=>dK 10 (.inr (by kernel_rfl)) z192 rfl wz (λn_41=>gP 11 (.inr (by kernel_rfl)) (λ_ _ ag=>⟨.inr (.inr (by kernel_rfl)),⟨.inr (.inr (by kernel_rfl)),trivial⟩⟩) 0 EF rfl rfl [(vI y_36.f_from),(vI y_36.f_to)] rfl wz (gP 12 (.inr (by kernel_rfl)) (λ_ _ ag=>⟨.inr (.inr (by kernel_rfl)),⟨.inr (.inr (by kernel_rfl)),⟨.inr (.inr (by kernel_rfl)),trivial⟩⟩⟩) 1 EF rfl rfl [(vI y_38.f_from),(vI y_38.f_to)] rfl wz (ah (ak (ak ?_))))))))
     obtain ⟨v_42,h_43,hF⟩:=bind_some hF
     refine aM [(1,(vI n_2)),(8,(.ref n_40 0 0)),(9,(.ref n_41 0 0)),(50,(vB v_42))] [(n_40,some (.cells 2 [(vI y_36.f_from),(vI y_36.f_to)])),(n_41,some (.cells 2 [(vI y_38.f_from),(vI y_38.f_to)]))] ?_ ?_
     ·refine au (aJ sG rfl 0 rfl wz (aH 0 1 il ft sz3 ag3 rfl rfl (vI y_38.f_from) rfl wz (aJ sG rfl 0 rfl wz (aH 0 0 il ft sz3 ag3 rfl rfl (vI y_36.f_from) rfl wz (aa (vI (w64 (y_38.f_from-y_36.f_from))) (aa (vB (decide ((w64 (y_38.f_from-y_36.f_from))>2592000000))) ?_))))))
      rcases aj h_43 with⟨hc_44,h_43⟩|⟨hc_44,h_43⟩
      ·refine aC rfl hc_44 wz (af (af (af (af (af (af (aa (vB true) (ah ?_))))))))
       obtain rfl:=ae h_43
       exact cu
      ·refine aC rfl hc_44 wz (aJ uT rfl 1 rfl wa (aH 0 1 il ft sz3 ag3 rfl rfl (vI y_38.f_to) rfl wa (aJ uT rfl 1 rfl wa (aH 0 0 il ft sz3 ag3 rfl rfl (vI y_36.f_to) rfl wa (aG (vI (w64 (y_38.f_to-y_36.f_to))) wa rfl (aG (vB (decide ((w64 (y_38.f_to-y_36.f_to))>2592000000))) wa rfl (aa (vB (decide ((w64 (y_38.f_to-y_36.f_to))>2592000000))) (ah ?_))))))))
       obtain rfl:=ae h_43
       exact cu
     ·rintro ⟨⟩ _ sl_ H_ hp_ hq_
      refine aO _ hp_ hq_ ?_
      rcases aj hF with⟨hc_45,hF⟩|⟨hc_45,hF⟩
      ·refine aA rfl hc_45 (ai (aa (vI 0) (aa (vI 2) (ah ?_))))
       obtain rfl:=ae hF
       exact ay (aK [(vI 0),(vI 2)] ⟨rfl,⟨rfl,trivial⟩⟩)
      ·refine ax rfl hc_45 (av (aZ (aJ uT rfl 1 rfl wz (aH 1 0 (.inr (by kernel_rfl)) (λ_ _ ag=>trivial) sz3 ag3 rfl rfl (vI y_36.f_to) rfl wz (aa (vI n_2) (aJ sG rfl 0 rfl wz (aH 4 0 (.inr (by kernel_rfl)) (λ_ _ ag=>⟨.inl ⟨rfl,rfl⟩,trivial⟩) sz3 ag3 rfl rfl (vI y_36.f_from) rfl wz (aa (vI (w64 (n_2-y_36.f_from))) (aJ uT rfl 1 rfl wz (aH 7 1 (.inr (by kernel_rfl)) (λ_ _ ag=>⟨.inl ⟨rfl,rfl⟩,⟨.inl ⟨rfl,rfl⟩,trivial⟩⟩) sz3 ag3 rfl rfl (vI y_38.f_to) rfl wz (aJ uT rfl 1 rfl wz (aH 9 0 (.inr (by kernel_rfl)) (λ_ _ ag=>⟨.inl ⟨rfl,rfl⟩,⟨.inl ⟨rfl,rfl⟩,⟨.inl ⟨rfl,rfl⟩,trivial⟩⟩⟩) sz3 ag3 rfl rfl (vI y_36.f_to) rfl wz (aa (vI (w64 (y_38.f_to-y_36.f_to))) (aa (vI (w64 ((w64 (n_2-y_36.f_from))*(w64 (y_38.f_to-y_36.f_to))))) (aJ sG rfl 0 rfl wz (aH 13 1 (.inr (by kernel_rfl)) (λ_ _ ag=>⟨.inl ⟨rfl,rfl⟩,⟨.inl ⟨rfl,rfl⟩,⟨.inl ⟨rfl,rfl⟩,⟨.inl ⟨rfl,rfl⟩,trivial⟩⟩⟩⟩) sz3 ag3 rfl rfl (vI y_38.f_from) rfl wz (aJ sG rfl 0 rfl wz (aH 15 0 (.inr (by kernel_rfl)) (λ_ _ ag=>⟨.inl ⟨rfl,rfl⟩,⟨.inl ⟨rfl,rfl⟩,⟨.inl ⟨rfl,rfl⟩,⟨.inl ⟨rfl,rfl⟩,⟨.inl ⟨rfl,rfl⟩,trivial⟩⟩⟩⟩⟩) sz3 ag3 rfl rfl (vI y_36.f_from) rfl wz (aa (vI (w64 (y_38.f_from-y_36.f_from))) ?_)))))))))))))))))))
       obtain ⟨q_46,hz_47,hF⟩:=bind_some hF
       refine Kv rfl rfl hz_47 wz (aa (vI (w64 (y_36.f_to+q_46))) (aa (vI (w64 (y_36.f_to+q_46))) (ah (ak (ai (aa (vI (w64 (y_36.f_to+q_46))) ?_))))))
       obtain ⟨r_48,hr_49,hF⟩:=bind_some hF
       refine aB (gU hr_49) rfl JX rfl rfl rfl rfl wz (aa (vB (!r_48)) (ah ?_))
       rcases aj hF with⟨hc_50,hF⟩|⟨hc_50,hF⟩
       ·refine aA rfl hc_50 (ai (aa (vI 0) (aa (vI 11) (ah ?_))))
        obtain rfl:=ae hF
        exact ay (aK [(vI 0),(vI 11)] ⟨rfl,⟨rfl,trivial⟩⟩)
       ·refine ax rfl hc_50 (av (ai (aa (vI (w64 (y_36.f_to+q_46))) (aa (vI (w64 (y_36.f_to+q_46))) (aa (vI 0) (ah ?_))))))
        obtain rfl:=ae hF
        exact ay (aK [(vI (w64 (y_36.f_to+q_46))),(vI 0)] ⟨rfl,⟨rfl,trivial⟩⟩)
theorem Df {l_1:(List Beat)} {player_2:ByteArray} {n_3:Int} {back_4:Bool} {r:Int×Int} (hF:pQ l_1 player_2 n_3 back_4=some r) :
  FnM Tryz.prog 63 [(vL Beat.enc l_1),(vS player_2),(vI n_3),(vB back_4)] [] (.tup [(vI r.1),(vI r.2)]) []:=by
 refine FnM.of_wH ⟨Tryz.prog,30,[],[]⟩ rfl Tryz.func63 rfl rfl (lb_ rfl) (by kernel_rfl) ?_
 unfold pQ at hF
 refine ai (aa (vI 0) (aa (vI 0) (ah (ak (ai (aa (vL Beat.enc l_1) ?_))))))
 obtain ⟨r_5,hr_6,hF⟩:=bind_some hF
 refine aB (xX hr_6) rfl hb97 rfl rfl rfl rfl wz (aa (vI r_5) (ah (ai (aa (vI r_5) (aa (vB (r_5 != 0)) (ah ?_))))))
 rcases aj hF with⟨hc_7,hF⟩|⟨hc_7,hF⟩
 ·refine aA rfl hc_7 (ai (aa (vI r_5) (aa (vI 0) (aa (vI r_5) (ah ?_)))))
  obtain rfl:=ae hF
  exact ay (aK [(vI 0),(vI r_5)] ⟨rfl,⟨rfl,trivial⟩⟩)
 ·refine ax rfl hc_7 (av (ak (ai (aa (vS player_2) ?_))))
  obtain ⟨r_8,hr_9,hF⟩:=bind_some hF
  refine aB (eD hr_9) rfl AQ rfl rfl rfl rfl wz (aa (vB (!r_8)) (ah ?_))
  rcases aj hF with⟨hc_10,hF⟩|⟨hc_10,hF⟩
  ·refine aA rfl hc_10 (ai (aa (vI 0) (aa (vI 5) (ah ?_))))
   obtain rfl:=ae hF
   exact ay (aK [(vI 0),(vI 5)] ⟨rfl,⟨rfl,trivial⟩⟩)
  ·refine ax rfl hc_10 (av (ak (ai (aa (vI n_3) ?_))))
   obtain ⟨r_11,hr_12,hF⟩:=bind_some hF
   refine aB (gU hr_12) rfl JX rfl rfl rfl rfl wz (aa (vB (!r_11)) (ah ?_))
   rcases aj hF with⟨hc_13,hF⟩|⟨hc_13,hF⟩
   ·refine aA rfl hc_13 (ai (aa (vI 0) (aa (vI 1) (ah ?_))))
    obtain rfl:=ae hF
    exact ay (aK [(vI 0),(vI 1)] ⟨rfl,⟨rfl,trivial⟩⟩)
   ·refine ax rfl hc_13 (av (ai (aa (vL Beat.enc l_1) (aa (vS player_2) (aa (vB back_4) ?_)))))
    obtain ⟨r_14,hr_15,hF⟩:=bind_some hF
    refine aB (zV hr_15) rfl hb99 rfl rfl rfl rfl wz (aa (vI n_3) ?_)
    obtain ⟨r_16,hr_17,hF⟩:=bind_some hF
    refine aB (BL hr_17) rfl hb98 rfl rfl rfl rfl wz (aa (vI r_16.1) (aa (vI r_16.2) (aa (vI r_16.1) (aa (vI r_16.2) (ah ?_)))))
    obtain rfl:=ae hF
    exact ay (aK [(vI r_16.1),(vI r_16.2)] ⟨rfl,⟨rfl,trivial⟩⟩)
theorem DT {l_1:(List Beat)} {player_2:ByteArray} {clock_3:Int} {r:Int×Int} (hF:pJ l_1 player_2 clock_3=some r) :
  FnM Tryz.prog 37 [(vL Beat.enc l_1),(vS player_2),(vI clock_3)] [] (.tup [(vI r.1),(vI r.2)]) []:=by
 refine FnM.of_wH ⟨Tryz.prog,14,[],[]⟩ rfl Tryz.func37 rfl rfl (lb_ rfl) (by kernel_rfl) ?_
 unfold pJ at hF
 refine ai (aa (vI 0) (aa (vI 0) (ah (ai (aa (vL Beat.enc l_1) (aa (vS player_2) (aa (vI clock_3) ?_)))))))
 obtain ⟨r_4,hr_5,hF⟩:=bind_some hF
 refine aB (Df hr_5) rfl hb63 rfl rfl rfl rfl wz (aa (vI r_4.1) (aa (vI r_4.2) (aa (vI r_4.1) (aa (vI r_4.2) (ah ?_)))))
 obtain rfl:=ae hF
 exact ay (aK [(vI r_4.1),(vI r_4.2)] ⟨rfl,⟨rfl,trivial⟩⟩)
theorem yR {a_1:Alert} {r:Int} (hF:jZ a_1=some r) :
  FnM Tryz.prog 169 [(.d (.agg (Alert.enc a_1)))] [] (vI r) []:=by
 refine FnM.of_wH ⟨Tryz.prog,48,[],[]⟩ rfl Tryz.func169 rfl rfl (lb_ rfl) (by kernel_rfl) ?_
 unfold jZ at hF
 refine ai (gZ 0 (.inl rfl) (Alert.v a_1) rfl rfl wz (λn_2=>aa (vI 0) (ah (ak (ai (aJ FO rfl 3 rfl wz (aH 0 0 il ft MG Ld rfl rfl (vL eS a_1.Refs) rfl wz (bG AU rfl wz (aa (vB (decide ((a_1.Refs.length:Int)>20))) (ah ?_))))))))))
 rcases aj hF with⟨hc_3,hF⟩|⟨hc_3,hF⟩
 ·refine aA rfl hc_3 (ai (aa (vI 2) (ah ?_)))
  obtain rfl:=ae hF
  exact ay (aK [(vI 2)] ⟨rfl,trivial⟩)
 ·refine ax rfl hc_3 (av (ak (ai (aJ FO rfl 3 rfl wz (aH 0 0 il ft MG Ld rfl rfl (vL eS a_1.Refs) rfl wz (bG AU rfl wz (aa (vI 0) (ah ?_))))))))
  obtain ⟨o_12,hj_13,hF⟩:=bind_some hF
  obtain ⟨hn_8,hj_13⟩:=bg hj_13
  refine cK (λ(s_9:Unit)=>[(1,(.ref n_2 0 0))]) (λ(s_9:Unit)=>[(n_2,some (.cells 9 (Alert.v a_1)))]) (λ(k_4:Nat)=>(λ(s_9:Unit)=>[(1,(.ref n_2 0 0)),(10,(vL eS a_1.Refs)),(11,(vI (a_1.Refs.length:Int))),(12,(vI (k_4:Int)))])) (λk x s=>iy a_1 k x s) o_12 a_1.Refs () hj_13 rfl (aI rfl) ?_ ?_
  ·rintro ⟨k_4,l_5,s_9⟩ ⟨hL_11,hD_7⟩
   dsimp only at hL_11 hD_7
   cases l_5 with
   | nil =>
    obtain rfl:=ae hL_11
    refine ai (aa (vB (decide ((k_4:Int)<(a_1.Refs.length:Int)))) (ah ?_))
    refine ak (ax rfl (drop_nil hD_7) (aV ?_))
    exact aU (s_9) rfl rfl (aI rfl)
   | cons x_6 l_5 =>
    obtain ⟨c_,hc_10,hL_11⟩:=bind_some hL_11
    refine ai (aa (vB (decide ((k_4:Int)<(a_1.Refs.length:Int)))) (ah ?_))
    refine ak (aA rfl (bz hD_7) (av ?_))
    unfold iy at hc_10
    refine ak (aN (ai (aa (vI (k_4:Int)) (dB yT rfl rfl (bK hD_7) rfl wz (bA sz9 ag9 rfl (vS x_6) rfl wz (aa (vI (k_4:Int)) (aa (vS x_6) (ah (aN (ai (aa (vS x_6) ?_)))))))))))
    obtain ⟨r_14,hr_15,hc_10⟩:=bind_some hc_10
    refine aB (eD hr_15) rfl AQ rfl rfl rfl rfl wz (aa (vB (!r_14)) (aa (vB (!r_14)) (ah ?_)))
    rcases aj hc_10 with⟨hc_16,hc_10⟩|⟨hc_16,hc_10⟩
    ·refine aA rfl hc_16 (ai (aa (vI 5) (ah ?_)))
     obtain rfl:=ae hc_10
     obtain rfl:=ae hL_11
     obtain rfl:=ae hF
     exact ay (aK [(vI 5)] ⟨rfl,trivial⟩)
    ·refine ax rfl hc_16 (ak ?_)
     obtain ⟨v_17,h_18,hc_10⟩:=bind_some hc_10
     refine aM [(1,(.ref n_2 0 0)),(4,(vS x_6)),(10,(vL eS a_1.Refs)),(11,(vI (a_1.Refs.length:Int))),(12,(vI (k_4:Int))),(21,(vB v_17))] [(n_2,some (.cells 9 (Alert.v a_1)))] ?_ ?_
     ·refine au (aa (vI (k_4:Int)) (aa (vB (decide ((k_4:Int)>0))) ?_))
      rcases aj h_18 with⟨hc_19,h_18⟩|⟨hc_19,h_18⟩
      ·refine aC rfl hc_19 wz (aG (vS x_6) wa rfl (aJ FO rfl 3 rfl wa (aH 0 0 il ft MG Ld rfl rfl (vL eS a_1.Refs) rfl wa (aG (vI (k_4:Int)) wa rfl (aG (vI (w64 ((k_4:Int)-1))) wa rfl ?_)))))
       obtain ⟨y_20,hy_21,h_18⟩:=bind_some h_18
       refine dB yT rfl rfl hy_21 rfl wa (bA sz9 ag9 rfl (vS y_20) rfl wa (aG (vB (sLe x_6 y_20)) wa rfl (aa (vB (sLe x_6 y_20)) (aa (vB (sLe x_6 y_20)) (ah ?_)))))
       obtain rfl:=ae h_18
       exact cu
      ·refine aC rfl hc_19 wz (af (af (af (af (af (af (af (af (aa (vB false) (aa (vB false) (ah ?_)))))))))))
       obtain rfl:=ae h_18
       exact cu
     ·rintro ⟨⟩ _ sl_ H_ hp_ hq_
      refine aO _ hp_ hq_ ?_
      rcases aj hc_10 with⟨hc_22,hc_10⟩|⟨hc_22,hc_10⟩
      ·refine aA rfl hc_22 (ai (aa (vI 7) (ah ?_)))
       obtain rfl:=ae hc_10
       obtain rfl:=ae hL_11
       obtain rfl:=ae hF
       exact ay (aK [(vI 7)] ⟨rfl,trivial⟩)
      ·refine ax rfl hc_22 (ai (aa (vS x_6) (aJ AY rfl 0 rfl wz (aH 0 0 il ft sz9 ag9 rfl rfl (vS a_1.Id) rfl wz (aa (vB (sEq x_6 a_1.Id)) (aa (vB (sEq x_6 a_1.Id)) (ah ?_)))))))
       rcases aj hc_10 with⟨hc_23,hc_10⟩|⟨hc_23,hc_10⟩
       ·refine aA rfl hc_23 (ai (aa (vI 14) (ah ?_)))
        obtain rfl:=ae hc_10
        obtain rfl:=ae hL_11
        obtain rfl:=ae hF
        exact ay (aK [(vI 14)] ⟨rfl,trivial⟩)
       ·refine ax rfl hc_23 (av (au (fq (bH hD_7 hn_8) wz rfl (aa (vI ((k_4+1:Nat):Int)) (ah ?_)))))
        obtain rfl:=ae hc_10
        exact aS (k_4+1,l_5,()) ⟨hL_11,aR hD_7⟩ (ls_ _) rfl (aI rfl)
  ·rintro s_9 ho_ sl_ H_ hp_ hq_
   subst ho_
   refine aO _ hp_ hq_ (ak (ai (aJ Je rfl 2 rfl wz (aH 0 0 il ft sz3 ag3 rfl rfl (vI a_1.Kind) rfl wz (aa (vB (a_1.Kind==1)) (aJ FO rfl 3 rfl wz (aH 0 0 il ft MG Ld rfl rfl (vL eS a_1.Refs) rfl wz (bG AU rfl wz (aa (vB ((a_1.Refs.length:Int)==0)) (NQ un4 rfl rfl wz (ah ?_)))))))))))
   rcases aj hF with⟨hc_24,hF⟩|⟨hc_24,hF⟩
   ·refine aA rfl hc_24 (ai (aa (vI 3) (ah ?_)))
    obtain rfl:=ae hF
    exact ay (aK [(vI 3)] ⟨rfl,trivial⟩)
   ·refine ax rfl hc_24 (av (ai (aa (vI 0) (ah ?_))))
    obtain rfl:=ae hF
    exact ay (aK [(vI 0)] ⟨rfl,trivial⟩)
theorem qJ {x0:ByteArray} {r:Bool} (hF:ji x0=some r) :
  FnM Tryz.prog 198 [(vS x0)] [] (vB r) [] :=
 Ng rfl Tryz.utf8_ValidString Lu hF
theorem xW {x0:ByteArray} {x1:ByteArray} {r:Bool} (hF:strings_Contains x0 x1=some r) :
  FnM Tryz.prog 199 [(vS x0),(vS x1)] [] (vB r) [] :=
 IM Tryz.strings_Contains Bg hF
theorem Dm {s_1:ByteArray} {r:Bool} (hF:pM s_1=some r) :
  FnM Tryz.prog 170 [(vS s_1)] [] (vB r) []:=by
 refine FnM.of_wH ⟨Tryz.prog,33,[],[]⟩ rfl Tryz.func170 rfl rfl (lb_ rfl) (by kernel_rfl) ?_
 unfold pM at hF
 refine ai (aa (vB false) (ah (ak (ai (aa (vI 0) (ah ?_))))))
 obtain ⟨o_10,hj_11,hF⟩:=bind_some hF
 obtain ⟨nq_31,hj_11⟩:=cB hj_11
 refine dJ (λ(s_7:Int)=>[(0,(vS s_1))]) (λ(s_7:Int)=>[]) (λ(k_2:Nat)=>(λ(s_7:Int)=>[(0,(vS s_1)),(3,(vI s_7))])) (λs=>nT s_1 s) o_10 nq_31 0 hj_11 rfl (aI rfl) ?_ ?_
 ·rintro ⟨k_2,s_7⟩ hL_9
  dsimp only at hL_9
  cases k_2 with
  | zero=>cases hL_9
  | succ k_2 =>
   obtain ⟨c_,hc_8,hL_9⟩:=bind_some hL_9
   unfold nT at hc_8
   refine ak (ai (aa (vI s_7) (aa (vS s_1) (nD un9 rfl wz (aa (vB (decide (s_7<(s_1.size:Int)))) (ah ?_))))))
   rcases aj hc_8 with⟨hc_12,hc_8⟩|⟨hc_12,hc_8⟩
   ·refine aA rfl hc_12 (av (ak (aN (ak ?_))))
    obtain ⟨v_13,h_14,hc_8⟩:=bind_some hc_8
    refine aM [(0,(vS s_1)),(3,(vI s_7)),(19,(vB v_13))] [] ?_ ?_
    ·refine au (aa (vS s_1) (aa (vI s_7) ?_))
     obtain ⟨b_15,hy_16,h_14⟩:=bind_some h_14
     refine qg un9 rfl rfl hy_16 wz (aa (vB (decide ((b_15.toNat:Int)<32))) ?_)
     rcases aj h_14 with⟨hc_17,h_14⟩|⟨hc_17,h_14⟩
     ·refine aC rfl hc_17 wz (af (af (af (af (aa (vB true) (ah ?_))))))
      obtain rfl:=ae h_14
      exact cu
     ·refine aC rfl hc_17 wz (aG (vS s_1) wa rfl (aG (vI s_7) wa rfl ?_))
      obtain ⟨b_18,hy_19,h_14⟩:=bind_some h_14
      refine qg un9 rfl rfl hy_19 wa (aG (vB ((b_18.toNat:Int)==127)) wa rfl (aa (vB ((b_18.toNat:Int)==127)) (ah ?_)))
      obtain rfl:=ae h_14
      exact cu
    ·rintro ⟨⟩ _ sl_ H_ hp_ hq_
     refine aO _ hp_ hq_ ?_
     rcases aj hc_8 with⟨hc_20,hc_8⟩|⟨hc_20,hc_8⟩
     ·refine aA rfl hc_20 (ai (aa (vB false) (ah ?_)))
      obtain rfl:=ae hc_8
      obtain rfl:=ae hL_9
      obtain rfl:=ae hF
      exact ay (aK [(vB false)] ⟨rfl,trivial⟩)
     ·refine ax rfl hc_20 (av (au (aa (vI s_7) (aa (vI (w64 (s_7+1))) (aa (vI (w64 (s_7+1))) (ah ?_))))))
      obtain rfl:=ae hc_8
      exact aS (k_2,(w64 (s_7+1))) hL_9 (ls_ _) rfl (aI rfl)
   ·refine ax rfl hc_12 (aV ?_)
    obtain rfl:=ae hc_8
    obtain rfl:=ae hL_9
    exact aU (s_7) rfl rfl (aI rfl)
 ·rintro s_7 ho_ sl_ H_ hp_ hq_
  subst ho_
  refine aO _ hp_ hq_ (ak ?_)
  obtain ⟨v_21,h_22,hF⟩:=bind_some hF
  refine aM [(2,(vB v_21))] [] ?_ ?_
  ·refine au (aa (vS s_1) ?_)
   obtain ⟨r_23,hr_24,h_22⟩:=bind_some h_22
   refine aB (qJ hr_24) rfl hb198 rfl rfl rfl rfl wz ?_
   rcases aj h_22 with⟨hc_25,h_22⟩|⟨hc_25,h_22⟩
   ·refine aC rfl hc_25 wz (aG (vS s_1) wa rfl ?_)
    obtain ⟨r_26,hr_27,h_22⟩:=bind_some h_22
    refine aB (wh hr_27) rfl hb42 rfl rfl rfl rfl wa (aG (vS s_1) wa rfl (aG (vB (sEq r_26 s_1)) wa rfl (aa (vB (sEq r_26 s_1)) ?_)))
    rcases aj h_22 with⟨hc_28,h_22⟩|⟨hc_28,h_22⟩
    ·refine aC rfl hc_28 wz (aG (vS s_1) wa rfl ?_)
     obtain ⟨r_29,hr_30,h_22⟩:=bind_some h_22
     refine aB (xW hr_30) rfl hb199 rfl rfl rfl rfl wa (aG (vB (!r_29)) wa rfl (aa (vB (!r_29)) (aa (vB (!r_29)) (ah ?_))))
     obtain rfl:=ae h_22
     exact cu
    ·refine aC rfl hc_28 wz (af (af (af (aa (vB false) (aa (vB false) (ah ?_))))))
     obtain rfl:=ae h_22
     exact cu
   ·refine aC rfl hc_25 wz (af (af (af (af (aa (vB false) (aa (vB false) (af (af (af (aa (vB false) (aa (vB false) (ah ?_))))))))))))
    obtain rfl:=ae h_22
    exact cu
  ·rintro ⟨⟩ _ sl_ H_ hp_ hq_
   refine aO _ hp_ hq_ ?_
   obtain rfl:=ae hF
   exact ay (aK [(vB v_21)] ⟨rfl,trivial⟩)
theorem xU {a_1:Alert} {r:Int} (hF:jv a_1=some r) :
  FnM Tryz.prog 132 [(.d (.agg (Alert.enc a_1)))] [] (vI r) []:=by
 refine FnM.of_wH ⟨Tryz.prog,92,[],[]⟩ rfl Tryz.func132 rfl rfl (lb_ rfl) (by kernel_rfl) ?_
 unfold jv at hF
 refine ai (gZ 0 (.inl rfl) (Alert.v a_1) rfl rfl wz (λn_2=>aa (vI 0) (ah (ak (ak ?_)))))
 obtain ⟨v_3,h_4,hF⟩:=bind_some hF
 refine aM [(1,(.ref n_2 0 0)),(17,(vB v_3))] [(n_2,some (.cells 9 (Alert.v a_1)))] ?_ ?_
 ·refine au (aJ AY rfl 0 rfl wz (aH 0 0 il ft sz9 ag9 rfl rfl (vS a_1.Id) rfl wz ?_))
  obtain ⟨r_5,hr_6,h_4⟩:=bind_some h_4
  refine aB (eD hr_6) rfl AQ rfl rfl rfl rfl wz (aa (vB (!r_5)) ?_)
  rcases aj h_4 with⟨hc_7,h_4⟩|⟨hc_7,h_4⟩
  ·refine aC rfl hc_7 wz (af (af (af (af (aa (vB true) (ah ?_))))))
   obtain rfl:=ae h_4
   exact cu
  ·refine aC rfl hc_7 wz (aJ pl95_1 rfl 1 rfl wa (aH 0 0 il ft sz9 ag9 rfl rfl (vS a_1.Sender) rfl wa ?_))
   obtain ⟨r_8,hr_9,h_4⟩:=bind_some h_4
   refine aB (eD hr_9) rfl AQ rfl rfl rfl rfl wa (aG (vB (!r_8)) wa rfl (aa (vB (!r_8)) (ah ?_)))
   obtain rfl:=ae h_4
   exact cu
 ·rintro ⟨⟩ _ sl_ H_ hp_ hq_
  refine aO _ hp_ hq_ ?_
  rcases aj hF with⟨hc_10,hF⟩|⟨hc_10,hF⟩
  ·refine aA rfl hc_10 (ai (aa (vI 5) (ah ?_)))
   obtain rfl:=ae hF
   exact ay (aK [(vI 5)] ⟨rfl,trivial⟩)
  ·refine ax rfl hc_10 (av (ak (ai (aJ Je rfl 2 rfl wz (aH 0 0 il ft sz3 ag3 rfl rfl (vI a_1.Kind) rfl wz ?_)))))
   obtain ⟨r_11,hr_12,hF⟩:=bind_some hF
   refine aB (aW hr_12) rfl pU rfl rfl rfl rfl wz (ah ?_)
   rcases aj hF with⟨hc_13,hF⟩|⟨hc_13,hF⟩
   ·refine aA rfl hc_13 (ai (aa (vI 4) (ah ?_)))
    obtain rfl:=ae hF
    exact ay (aK [(vI 4)] ⟨rfl,trivial⟩)
   ·refine ax rfl hc_13 (av (ak (ai (aH 0 0 il ft BJ FZ rfl rfl (.d (.agg (Alert.enc a_1))) rfl wz ?_))))
    obtain ⟨r_14,hr_15,hF⟩:=bind_some hF
    refine aB (yR hr_15) rfl hb169 rfl rfl rfl rfl wz (aa (vI r_14) (ah (ai (aa (vI r_14) (aa (vB (r_14 != 0)) (ah ?_))))))
    rcases aj hF with⟨hc_16,hF⟩|⟨hc_16,hF⟩
    ·refine aA rfl hc_16 (ai (aa (vI r_14) (aa (vI r_14) (ah ?_))))
     obtain rfl:=ae hF
     exact ay (aK [(vI r_14)] ⟨rfl,trivial⟩)
    ·refine ax rfl hc_16 (av (ak (ak ?_)))
     obtain ⟨v_17,h_18,hF⟩:=bind_some hF
     refine aM [(1,(.ref n_2 0 0)),(45,(vB v_17))] [(n_2,some (.cells 9 (Alert.v a_1)))] ?_ ?_
     ·refine au (aJ DN rfl 4 rfl wz (aH 0 0 il ft sz3 ag3 rfl rfl (vI a_1.At) rfl wz ?_))
      obtain ⟨r_19,hr_20,h_18⟩:=bind_some h_18
      refine aB (gU hr_20) rfl JX rfl rfl rfl rfl wz (aa (vB (!r_19)) ?_)
      rcases aj h_18 with⟨hc_21,h_18⟩|⟨hc_21,h_18⟩
      ·refine aC rfl hc_21 wz (af (af (af (af (af (af (af (af (af (aa (vB true) (aa (vB true) (af (af (af (aa (vB true) (ah ?_))))))))))))))))
       obtain rfl:=ae h_18
       exact cu
      ·refine aC rfl hc_21 wz (aJ pl95_5 rfl 5 rfl wa (aH 0 0 il ft sz3 ag3 rfl rfl (vI a_1.Until) rfl wa (aJ DN rfl 4 rfl wa (aH 0 0 il ft sz3 ag3 rfl rfl (vI a_1.At) rfl wa (aG (vI (w64 (a_1.At+1))) wa rfl (aJ DN rfl 4 rfl wa (aH 0 0 il ft sz3 ag3 rfl rfl (vI a_1.At) rfl wa (aG (vI (w64 (a_1.At+2592000000))) wa rfl ?_))))))))
       obtain ⟨r_22,hr_23,h_18⟩:=bind_some h_18
       refine aB (aW hr_23) rfl pU rfl rfl rfl rfl wa (aa (vB r_22) ?_)
       rcases aj h_18 with⟨hc_24,h_18⟩|⟨hc_24,h_18⟩
       ·refine aC rfl hc_24 wz (af (af (af (aa (vB true) (ah ?_)))))
        obtain rfl:=ae h_18
        exact cu
       ·refine aC rfl hc_24 wz (aJ pl95_6 rfl 6 rfl wa (aH 0 0 il ft sz3 ag3 rfl rfl (vI a_1.Weight) rfl wa ?_))
        obtain ⟨r_25,hr_26,h_18⟩:=bind_some h_18
        refine aB (aW hr_26) rfl pU rfl rfl rfl rfl wa (aa (vB r_25) (ah ?_))
        obtain rfl:=ae h_18
        exact cu
     ·rintro ⟨⟩ _ sl_ H_ hp_ hq_
      refine aO _ hp_ hq_ ?_
      rcases aj hF with⟨hc_27,hF⟩|⟨hc_27,hF⟩
      ·refine aA rfl hc_27 (ai (aa (vI 1) (ah ?_)))
       obtain rfl:=ae hF
       exact ay (aK [(vI 1)] ⟨rfl,trivial⟩)
      ·refine ax rfl hc_27 (av (ak (ai (aJ Fv rfl 7 rfl wz (aH 0 0 il ft Md Ls rfl rfl (vL Rect.enc a_1.Areas) rfl wz (bG AC rfl wz (aa (vB (decide ((a_1.Areas.length:Int)>20))) (ah ?_))))))))
       rcases aj hF with⟨hc_28,hF⟩|⟨hc_28,hF⟩
       ·refine aA rfl hc_28 (ai (aa (vI 2) (ah ?_)))
        obtain rfl:=ae hF
        exact ay (aK [(vI 2)] ⟨rfl,trivial⟩)
       ·refine ax rfl hc_28 (av (ak (ai (aJ Fv rfl 7 rfl wz (aH 0 0 il ft Md Ls rfl rfl (vL Rect.enc a_1.Areas) rfl wz (bG AC rfl wz (aa (vI 0) (ah ?_))))))))
        obtain ⟨o_37,hj_38,hF⟩:=bind_some hF
        obtain ⟨hn_33,hj_38⟩:=bg hj_38
        refine cK (λ(s_34:Unit)=>[(1,(.ref n_2 0 0))]) (λ(s_34:Unit)=>[(n_2,some (.cells 9 (Alert.v a_1)))]) (λ(k_29:Nat)=>(λ(s_34:Unit)=>[(1,(.ref n_2 0 0)),(51,(vL Rect.enc a_1.Areas)),(52,(vI (a_1.Areas.length:Int))),(53,(vI (k_29:Int)))])) (λk x s=>jo k x s) o_37 a_1.Areas () hj_38 rfl (aI rfl) ?_ ?_
        ·rintro ⟨k_29,l_30,s_34⟩ ⟨hL_36,hD_32⟩
         dsimp only at hL_36 hD_32
         cases l_30 with
         | nil =>
          obtain rfl:=ae hL_36
          refine ai (aa (vB (decide ((k_29:Int)<(a_1.Areas.length:Int)))) (ah ?_))
          refine ak (ax rfl (drop_nil hD_32) (aV ?_))
          exact aU (s_34) rfl rfl (aI rfl)
         | cons x_31 l_30 =>
          obtain ⟨c_,hc_35,hL_36⟩:=bind_some hL_36
          refine ai (aa (vB (decide ((k_29:Int)<(a_1.Areas.length:Int)))) (ah ?_))
          refine ak (aA rfl (bz hD_32) (av ?_))
          unfold jo at hc_35
          refine ak (aN (ai (dB E5 rfl rfl (bK hD_32) rfl wz (bA wR Iz rfl (.d (.agg (Rect.enc x_31))) rfl wz (dK 0 (.inl rfl) z78 rfl wz (λn_39=>gP 0 il ft 1 wR rfl rfl (Rect.v x_31) rfl wz (ah (ai (aH 0 1 il ft wR Iz rfl rfl (.d (.agg (Rect.enc x_31))) rfl wz ?_)))))))))
          obtain ⟨r_40,hr_41,hc_35⟩:=bind_some hc_35
          refine aB (qA hr_41) rfl hb85 rfl rfl rfl rfl wz (aa (vI r_40) (ah (ai (aa (vI r_40) (aa (vB (r_40 != 0)) (ah ?_))))))
          rcases aj hc_35 with⟨hc_42,hc_35⟩|⟨hc_42,hc_35⟩
          ·refine aA rfl hc_42 (ai (aa (vI r_40) (aa (vI r_40) (ah ?_))))
           obtain rfl:=ae hc_35
           obtain rfl:=ae hL_36
           obtain rfl:=ae hF
           exact ay (aK [(vI r_40)] ⟨rfl,trivial⟩)
          ·refine ax rfl hc_42 (av (au (fq (bH hD_32 hn_33) wz rfl (aa (vI ((k_29+1:Nat):Int)) (ah ?_)))))
           obtain rfl:=ae hc_35
           exact aS (k_29+1,l_30,()) ⟨hL_36,aR hD_32⟩ (ls_ _) rfl (aI rfl)
        ·rintro s_34 ho_ sl_ H_ hp_ hq_
         subst ho_
         refine aO _ hp_ hq_ (ai (aJ Je rfl 2 rfl wz (aH 0 0 il ft sz3 ag3 rfl rfl (vI a_1.Kind) rfl wz (aa (vB (a_1.Kind==3)) (aa (vB (a_1.Kind==3)) (ah (ak (aN (ai (aa (vB (a_1.Kind==3)) (aJ Fv rfl 7 rfl wz (aH 0 0 il ft Md Ls rfl rfl (vL Rect.enc a_1.Areas) rfl wz (bG AC rfl wz (aa (vB ((a_1.Areas.length:Int)==0)) (NQ un4 rfl rfl wz (aa (vB (!((a_1.Kind==3)==((a_1.Areas.length:Int)==0)))) (ah ?_)))))))))))))))))
         rcases aj hF with⟨hc_43,hF⟩|⟨hc_43,hF⟩
         ·refine aA rfl hc_43 (ai (aa (vI 3) (ah ?_)))
          obtain rfl:=ae hF
          exact ay (aK [(vI 3)] ⟨rfl,trivial⟩)
         ·refine ax rfl hc_43 (ai (aJ I8 rfl 8 rfl wz (aH 0 0 il ft sz9 ag9 rfl rfl (vS a_1.Text) rfl wz (nD un9 rfl wz (aa (vB (decide ((a_1.Text.size:Int)>500))) (aa (vB (decide ((a_1.Text.size:Int)>500))) (ah ?_)))))))
          rcases aj hF with⟨hc_44,hF⟩|⟨hc_44,hF⟩
          ·refine aA rfl hc_44 (ai (aa (vI 2) (ah ?_)))
           obtain rfl:=ae hF
           exact ay (aK [(vI 2)] ⟨rfl,trivial⟩)
          ·refine ax rfl hc_44 (ak ?_)
           obtain ⟨v_45,h_46,hF⟩:=bind_some hF
           refine aM [(78,(vB v_45))] [(n_2,some (.cells 9 (Alert.v a_1)))] ?_ ?_
           ·refine au (aJ I8 rfl 8 rfl wz (aH 0 0 il ft sz9 ag9 rfl rfl (vS a_1.Text) rfl wz ?_))
            obtain ⟨r_47,hr_48,h_46⟩:=bind_some h_46
            refine aB (Dm hr_48) rfl hb170 rfl rfl rfl rfl wz (aa (vB (!r_47)) ?_)
            rcases aj h_46 with⟨hc_49,h_46⟩|⟨hc_49,h_46⟩
            ·refine aC rfl hc_49 wz (af (af (af (af (bQ (wn rfl rfl) (bQ (wn rfl rfl) (af (aa (vB true) (aa (vB true) (ah ?_))))))))))
             obtain rfl:=ae h_46
             exact cu
            ·refine aC rfl hc_49 wz (aJ I8 rfl 8 rfl wa (aH 0 0 il ft sz9 ag9 rfl rfl (vS a_1.Text) rfl wa (aG (vB (sEq a_1.Text (⟨#[]⟩:ByteArray))) wa rfl ?_)))
             rcases aj h_46 with⟨hc_50,h_46⟩|⟨hc_50,h_46⟩
             ·refine aC rfl hc_50 wa (aG (vB (a_1.Kind==3)) wa rfl (aG (vB (!(a_1.Kind==3))) wa rfl (aG (vB (!(a_1.Kind==3))) wa rfl (aa (vB (!(a_1.Kind==3))) (aa (vB (!(a_1.Kind==3))) (ah ?_))))))
              obtain rfl:=ae h_46
              exact cu
             ·refine aC rfl hc_50 wa (af (af (aG (vB false) wa rfl (aa (vB false) (aa (vB false) (ah ?_))))))
              obtain rfl:=ae h_46
              exact cu
           ·rintro ⟨⟩ _ sl_ H_ hp_ hq_
            refine aO _ hp_ hq_ ?_
            rcases aj hF with⟨hc_51,hF⟩|⟨hc_51,hF⟩
            ·refine aA rfl hc_51 (ai (aa (vI 3) (ah ?_)))
             obtain rfl:=ae hF
             exact ay (aK [(vI 3)] ⟨rfl,trivial⟩)
            ·refine ax rfl hc_51 (av (ai (aa (vI 0) (ah ?_))))
             obtain rfl:=ae hF
             exact ay (aK [(vI 0)] ⟨rfl,trivial⟩)
theorem z8 {a_1:Alert} {b_2:Alert} {r:Int} (hF:oU a_1 b_2=some r) :
  FnM Tryz.prog 133 [(.d (.agg (Alert.enc a_1))),(.d (.agg (Alert.enc b_2)))] [] (vI r) []:=by
 refine FnM.of_wH ⟨Tryz.prog,17,[],[]⟩ rfl Tryz.func133 rfl rfl (lb_ rfl) (by kernel_rfl) ?_
 unfold oU at hF
 refine ai (gZ 0 (.inl rfl) (Alert.v a_1) rfl rfl wz (λn_3=>gZ 0 (.inl rfl) (Alert.v b_2) rfl rfl wz (λn_4=>aa (vI 0) (ah (ak (aZ (aJ DN rfl 4 rfl wz (aH 1 0 (.inr (by kernel_rfl)) (λ_ _ ag=>trivial) sz3 ag3 rfl rfl (vI a_1.At) rfl wz (aJ DN rfl 4 rfl wz (aH 3 1 (.inr (by kernel_rfl)) (λ_ _ ag=>⟨.inl ⟨rfl,rfl⟩,trivial⟩) sz3 ag3 rfl rfl (vI b_2.At) rfl wz ?_))))))))))
 obtain ⟨r_5,hr_6,hF⟩:=bind_some hF
 refine aB (mE hr_6) rfl hb45 rfl rfl rfl rfl wz (aJ AY rfl 0 rfl wz (aH 6 0 (.inr (by kernel_rfl)) (λ_ _ ag=>⟨.inl ⟨rfl,rfl⟩,⟨.inl ⟨rfl,rfl⟩,trivial⟩⟩) sz9 ag9 rfl rfl (vS a_1.Id) rfl wz (aJ AY rfl 0 rfl wz (aH 8 1 (.inr (by kernel_rfl)) (λ_ _ ag=>⟨.inl ⟨rfl,rfl⟩,⟨.inl ⟨rfl,rfl⟩,⟨.inl ⟨rfl,rfl⟩,trivial⟩⟩⟩) sz9 ag9 rfl rfl (vS b_2.Id) rfl wz ?_))))
 obtain ⟨r_7,hr_8,hF⟩:=bind_some hF
 refine aB (mU hr_8) rfl hb44 rfl rfl rfl rfl wz (iK (([r_5,r_7]:List Int).map eI) qV J2 rfl rfl rfl rfl rfl wz ?_)
 obtain ⟨r_9,hr_10,hF⟩:=bind_some hF
 refine aB (sO hr_10) rfl hb43 rfl rfl rfl rfl wz (aa (vI r_9) (ah ?_))
 obtain rfl:=ae hF
 exact ay (aK [(vI r_9)] ⟨rfl,trivial⟩)
theorem w9 {l_1:(List Alert)} {r:Int} (hF:iZ l_1=some r) :
  FnM Tryz.prog 100 [(vL Alert.enc l_1)] [] (vI r) []:=by
 refine FnM.of_wH ⟨Tryz.prog,52,[],[]⟩ rfl Tryz.func100 rfl rfl (lb_ rfl) (by kernel_rfl) ?_
 unfold iZ at hF
 refine ai (aa (vI 0) (ah (ak (ai (aa (vL Alert.enc l_1) (bG MU rfl wz (aa (vB (decide ((l_1.length:Int)>300))) (ah ?_))))))))
 rcases aj hF with⟨hc_2,hF⟩|⟨hc_2,hF⟩
 ·refine aA rfl hc_2 (ai (aa (vI 2) (ah ?_)))
  obtain rfl:=ae hF
  exact ay (aK [(vI 2)] ⟨rfl,trivial⟩)
 ·refine ax rfl hc_2 (av (ak (ai (aa (vL Alert.enc l_1) (bG MU rfl wz (aa (vI 0) (ah ?_)))))))
  obtain ⟨o_11,hj_12,hF⟩:=bind_some hF
  obtain ⟨hn_7,hj_12⟩:=bg hj_12
  refine cK (λ(s_8:Unit)=>[(0,(vL Alert.enc l_1))]) (λ(s_8:Unit)=>[]) (λ(k_3:Nat)=>(λ(s_8:Unit)=>[(0,(vL Alert.enc l_1)),(12,(vL Alert.enc l_1)),(13,(vI (l_1.length:Int))),(14,(vI (k_3:Int)))])) (λk x s=>gH l_1 k x s) o_11 l_1 () hj_12 rfl (aI rfl) ?_ ?_
  ·rintro ⟨k_3,l_4,s_8⟩ ⟨hL_10,hD_6⟩
   dsimp only at hL_10 hD_6
   cases l_4 with
   | nil =>
    obtain rfl:=ae hL_10
    refine ai (aa (vB (decide ((k_3:Int)<(l_1.length:Int)))) (ah ?_))
    refine ak (ax rfl (drop_nil hD_6) (aV ?_))
    exact aU (s_8) rfl rfl (aI rfl)
   | cons x_5 l_4 =>
    obtain ⟨c_,hc_9,hL_10⟩:=bind_some hL_10
    refine ai (aa (vB (decide ((k_3:Int)<(l_1.length:Int)))) (ah ?_))
    refine ak (aA rfl (bz hD_6) (av ?_))
    unfold gH at hc_9
    refine ak (aN (ai (aa (vI (k_3:Int)) (dB K8 rfl rfl (bK hD_6) rfl wz (bA BJ FZ rfl (.d (.agg (Alert.enc x_5))) rfl wz (dK 0 (.inl rfl) z95 rfl wz (λn_13=>aa (vI (k_3:Int)) (gP 0 il ft 0 BJ rfl rfl (Alert.v x_5) rfl wz (ah (ak (ai (aH 0 0 il ft BJ FZ rfl rfl (.d (.agg (Alert.enc x_5))) rfl wz ?_))))))))))))
    obtain ⟨r_14,hr_15,hc_9⟩:=bind_some hc_9
    refine aB (xU hr_15) rfl hb132 rfl rfl rfl rfl wz (aa (vI r_14) (ah (ai (aa (vI r_14) (aa (vB (r_14 != 0)) (ah ?_))))))
    rcases aj hc_9 with⟨hc_16,hc_9⟩|⟨hc_16,hc_9⟩
    ·refine aA rfl hc_16 (ai (aa (vI r_14) (aa (vI r_14) (ah ?_))))
     obtain rfl:=ae hc_9
     obtain rfl:=ae hL_10
     obtain rfl:=ae hF
     exact ay (aK [(vI r_14)] ⟨rfl,trivial⟩)
    ·refine ax rfl hc_16 (av (ak ?_))
     obtain ⟨v_17,h_18,hc_9⟩:=bind_some hc_9
     refine aM [(0,(vL Alert.enc l_1)),(12,(vL Alert.enc l_1)),(13,(vI (l_1.length:Int))),(14,(vI (k_3:Int))),(35,(vB v_17))] [(n_13,some (.cells 9 (Alert.v x_5)))] ?_ ?_
     ·refine aZ (aa (vI (k_3:Int)) (aa (vB (decide ((k_3:Int)>0))) ?_))
      rcases aj h_18 with⟨hc_19,h_18⟩|⟨hc_19,h_18⟩
      ·refine aC rfl hc_19 wz (aG (vL Alert.enc l_1) wa rfl (aG (vI (k_3:Int)) wa rfl (aG (vI (w64 ((k_3:Int)-1))) wa rfl ?_)))
       obtain ⟨y_20,hy_21,h_18⟩:=bind_some h_18
       refine dB K8 rfl rfl hy_21 rfl wa (bA BJ FZ rfl (.d (.agg (Alert.enc y_20))) rfl wa (aH 8 0 (.inr (by kernel_rfl)) (λ_ _ ag=>trivial) BJ FZ rfl rfl (.d (.agg (Alert.enc x_5))) rfl wa ?_))
       obtain ⟨r_22,hr_23,h_18⟩:=bind_some h_18
       refine aB (z8 hr_23) rfl hb133 rfl rfl rfl rfl wa (aG (vB (decide (r_22>=0))) wa rfl (aa (vB (decide (r_22>=0))) (ah ?_)))
       obtain rfl:=ae h_18
       exact cu
      ·refine aC rfl hc_19 wz (af (af (af (af (af (af (af (af (aa (vB false) (ah ?_))))))))))
       obtain rfl:=ae h_18
       exact cu
     ·rintro ⟨⟩ _ sl_ H_ hp_ hq_
      refine aO _ hp_ hq_ ?_
      rcases aj hc_9 with⟨hc_24,hc_9⟩|⟨hc_24,hc_9⟩
      ·refine aA rfl hc_24 (ai (aa (vI 7) (ah ?_)))
       obtain rfl:=ae hc_9
       obtain rfl:=ae hL_10
       obtain rfl:=ae hF
       exact ay (aK [(vI 7)] ⟨rfl,trivial⟩)
      ·refine ax rfl hc_24 (av (au (fq (bH hD_6 hn_7) wz rfl (aa (vI ((k_3+1:Nat):Int)) (ah ?_)))))
       obtain rfl:=ae hc_9
       exact aS (k_3+1,l_4,()) ⟨hL_10,aR hD_6⟩ (ls_ _) rfl (aI rfl)
  ·rintro s_8 ho_ sl_ H_ hp_ hq_
   subst ho_
   refine aO _ hp_ hq_ (ai (h_mkmap 0 (.inl rfl) wz (λn_25=>KT (b':=some (bM D.str D.bool ([]:List (ByteArray×Bool)))) 0 rfl rfl (aa (.map n_25) (ah (ak (ai (aa (vL Alert.enc l_1) (bG MU rfl wz (aa (vI 0) (ah ?_)))))))))))
   obtain ⟨o_34,hj_35,hF⟩:=bind_some hF
   obtain ⟨hn_30,hj_35⟩:=bg hj_35
   refine cK (λ(s_31:(List (ByteArray×Bool)))=>[]) (λ(s_31:(List (ByteArray×Bool)))=>[(n_25,some (bM D.str D.bool s_31))]) (λ(k_26:Nat)=>(λ(s_31:(List (ByteArray×Bool)))=>[(6,(.map n_25)),(38,(vL Alert.enc l_1)),(39,(vI (l_1.length:Int))),(40,(vI (k_26:Int)))])) (λk x s=>iY k x s) o_34 l_1 ([]:List (ByteArray×Bool)) hj_35 rfl (aI rfl) ?_ ?_
   ·rintro ⟨k_26,l_27,s_31⟩ ⟨hL_33,hD_29⟩
    dsimp only at hL_33 hD_29
    cases l_27 with
    | nil =>
     obtain rfl:=ae hL_33
     refine ai (aa (vB (decide ((k_26:Int)<(l_1.length:Int)))) (ah ?_))
     refine ak (ax rfl (drop_nil hD_29) (aV ?_))
     exact aU (s_31) rfl rfl (aI rfl)
    | cons x_28 l_27 =>
     obtain ⟨c_,hc_32,hL_33⟩:=bind_some hL_33
     refine ai (aa (vB (decide ((k_26:Int)<(l_1.length:Int)))) (ah ?_))
     refine ak (aA rfl (bz hD_29) (av ?_))
     unfold iY at hc_32
     refine ak (aN (ai (dB K8 rfl rfl (bK hD_29) rfl wz (bA BJ FZ rfl (.d (.agg (Alert.enc x_28))) rfl wz (dK 0 (.inl rfl) z95 rfl wz (λn_36=>gP 0 il ft 1 BJ rfl rfl (Alert.v x_28) rfl wz (ah (ak (ai (aa (.map n_25) (aJ AY rfl 0 rfl wz (aH 0 1 il ft sz9 ag9 rfl rfl (vS x_28.Id) rfl wz (N8 (eq:=eqS) (kD:=D.str) (vD:=D.bool) (es:=s_31) (k:=x_28.Id) (z:=false) 0 0 il ft (λ_ _=>rfl) mt195 (by kernel_rfl) (by kernel_rfl) rfl rfl rfl (vB ((Ja eqS s_31 x_28.Id).getD false)) rfl wz (ah ?_))))))))))))))
     rcases aj hc_32 with⟨hc_37,hc_32⟩|⟨hc_37,hc_32⟩
     ·refine aA rfl hc_37 (ai (aa (vI 6) (ah ?_)))
      obtain rfl:=ae hc_32
      obtain rfl:=ae hL_33
      obtain rfl:=ae hF
      exact ay (aK [(vI 6)] ⟨rfl,trivial⟩)
     ·refine ax rfl hc_37 (av (au (aa (.map n_25) (aJ AY rfl 0 rfl wz (aH 0 1 il ft sz9 ag9 rfl rfl (vS x_28.Id) rfl wz (OE (eq:=eqS) (kD:=D.str) (vD:=D.bool) (es:=s_31) (k:=x_28.Id) (v:=true) 0 0 il ft (λ_ _=>rfl) mt195 (by kernel_rfl) rfl rfl rfl rfl wz (ah (au (fq (bH hD_29 hn_30) wz rfl (aa (vI ((k_26+1:Nat):Int)) (ah ?_)))))))))))
      obtain rfl:=ae hc_32
      exact aS (k_26+1,l_27,(NC eqS s_31 x_28.Id true)) ⟨hL_33,aR hD_29⟩ (ls_ _) rfl (aI rfl)
   ·rintro s_31 ho_ sl_ H_ hp_ hq_
    subst ho_
    refine aO _ hp_ hq_ (ai (aa (vI 0) (ah ?_)))
    obtain rfl:=ae hF
    exact ay (aK [(vI 0)] ⟨rfl,trivial⟩)
theorem x8 {l_1:(List Post)} {r:Int} (hF:jI l_1=some r) :
  FnM Tryz.prog 101 [(vL Post.enc l_1)] [] (vI r) []:=by
 refine FnM.of_wH ⟨Tryz.prog,44,[],[]⟩ rfl Tryz.func101 rfl rfl (lb_ rfl) (by kernel_rfl) ?_
 unfold jI at hF
 refine ai (aa (vI 0) (ah (ak (ai (aa (vL Post.enc l_1) (bG un128 rfl wz (aa (vB (decide ((l_1.length:Int)>500))) (ah ?_))))))))
 rcases aj hF with⟨hc_2,hF⟩|⟨hc_2,hF⟩
 ·refine aA rfl hc_2 (ai (aa (vI 2) (ah ?_)))
  obtain rfl:=ae hF
  exact ay (aK [(vI 2)] ⟨rfl,trivial⟩)
 ·refine ax rfl hc_2 (av (ak (ai (aa (vL Post.enc l_1) (bG un128 rfl wz (aa (vI 0) (ah ?_)))))))
  obtain ⟨o_11,hj_12,hF⟩:=bind_some hF
  obtain ⟨hn_7,hj_12⟩:=bg hj_12
  refine cK (λ(s_8:Unit)=>[]) (λ(s_8:Unit)=>[]) (λ(k_3:Nat)=>(λ(s_8:Unit)=>[(0,(vL Post.enc l_1)),(8,(vL Post.enc l_1)),(9,(vI (l_1.length:Int))),(10,(vI (k_3:Int)))])) (λk x s=>ic l_1 k x s) o_11 l_1 () hj_12 rfl (aI rfl) ?_ ?_
  ·rintro ⟨k_3,l_4,s_8⟩ ⟨hL_10,hD_6⟩
   dsimp only at hL_10 hD_6
   cases l_4 with
   | nil =>
    obtain rfl:=ae hL_10
    refine ai (aa (vB (decide ((k_3:Int)<(l_1.length:Int)))) (ah ?_))
    refine ak (ax rfl (drop_nil hD_6) (aV ?_))
    exact aU (s_8) rfl rfl (aI rfl)
   | cons x_5 l_4 =>
    obtain ⟨c_,hc_9,hL_10⟩:=bind_some hL_10
    refine ai (aa (vB (decide ((k_3:Int)<(l_1.length:Int)))) (ah ?_))
    refine ak (aA rfl (bz hD_6) (av ?_))
    unfold ic at hc_9
    refine ak (aN (ai (aa (vI (k_3:Int)) (dB Nc rfl rfl (bK hD_6) rfl wz (bA sz99 ag99 rfl (.d (.agg (Post.enc x_5))) rfl wz (dK 0 (.inl rfl) z99 rfl wz (λn_13=>aa (vI (k_3:Int)) (gP 0 il ft 0 sz99 rfl rfl (Post.v x_5) rfl wz (ah (aN (ai (aJ JS rfl 0 rfl wz (aH 0 0 il ft sz9 ag9 rfl rfl (vS x_5.Player) rfl wz ?_)))))))))))))
    obtain ⟨r_14,hr_15,hc_9⟩:=bind_some hc_9
    refine aB (eD hr_15) rfl AQ rfl rfl rfl rfl wz (aa (vB (!r_14)) (aa (vB (!r_14)) (ah ?_)))
    rcases aj hc_9 with⟨hc_16,hc_9⟩|⟨hc_16,hc_9⟩
    ·refine aA rfl hc_16 (ai (aa (vI 5) (ah ?_)))
     obtain rfl:=ae hc_9
     obtain rfl:=ae hL_10
     obtain rfl:=ae hF
     exact ay (aK [(vI 5)] ⟨rfl,trivial⟩)
    ·refine ax rfl hc_16 (ak ?_)
     obtain ⟨v_17,h_18,hc_9⟩:=bind_some hc_9
     refine aM [(0,(vL Post.enc l_1)),(3,(vI (k_3:Int))),(4,(.ref n_13 0 0)),(8,(vL Post.enc l_1)),(9,(vI (l_1.length:Int))),(10,(vI (k_3:Int))),(20,(vB v_17))] [(n_13,some (.cells 3 (Post.v x_5)))] ?_ ?_
     ·refine au (aJ JK rfl 1 rfl wz (aH 0 0 il ft sz3 ag3 rfl rfl (vI x_5.X) rfl wz ?_))
      obtain ⟨r_19,hr_20,h_18⟩:=bind_some h_18
      refine aB (aW hr_20) rfl pU rfl rfl rfl rfl wz ?_
      rcases aj h_18 with⟨hc_21,h_18⟩|⟨hc_21,h_18⟩
      ·refine aC rfl hc_21 wz (af (af (af (aa (vB true) (aa (vB true) (ah ?_))))))
       obtain rfl:=ae h_18
       exact cu
      ·refine aC rfl hc_21 wz (aJ Jr rfl 2 rfl wa (aH 0 0 il ft sz3 ag3 rfl rfl (vI x_5.Y) rfl wa ?_))
       obtain ⟨r_22,hr_23,h_18⟩:=bind_some h_18
       refine aB (aW hr_23) rfl pU rfl rfl rfl rfl wa (aa (vB r_22) (aa (vB r_22) (ah ?_)))
       obtain rfl:=ae h_18
       exact cu
     ·rintro ⟨⟩ _ sl_ H_ hp_ hq_
      refine aO _ hp_ hq_ ?_
      rcases aj hc_9 with⟨hc_24,hc_9⟩|⟨hc_24,hc_9⟩
      ·refine aA rfl hc_24 (ai (aa (vI 1) (ah ?_)))
       obtain rfl:=ae hc_9
       obtain rfl:=ae hL_10
       obtain rfl:=ae hF
       exact ay (aK [(vI 1)] ⟨rfl,trivial⟩)
      ·refine ax rfl hc_24 (ak ?_)
       obtain ⟨v_25,h_26,hc_9⟩:=bind_some hc_9
       refine aM [(0,(vL Post.enc l_1)),(8,(vL Post.enc l_1)),(9,(vI (l_1.length:Int))),(10,(vI (k_3:Int))),(29,(vB v_25))] [(n_13,some (.cells 3 (Post.v x_5)))] ?_ ?_
       ·refine aZ (aa (vI (k_3:Int)) (aa (vB (decide ((k_3:Int)>0))) ?_))
        rcases aj h_26 with⟨hc_27,h_26⟩|⟨hc_27,h_26⟩
        ·refine aC rfl hc_27 wz (aJ JS rfl 0 rfl wa (aH 4 0 (.inr (by kernel_rfl)) (λ_ _ ag=>trivial) sz9 ag9 rfl rfl (vS x_5.Player) rfl wa (aG (vL Post.enc l_1) wa rfl (aG (vI (k_3:Int)) wa rfl (aG (vI (w64 ((k_3:Int)-1))) wa rfl ?_)))))
         obtain ⟨y_28,hy_29,h_26⟩:=bind_some h_26
         refine dB Nc rfl rfl hy_29 rfl wa (lK JS rfl [.str y_28.Player,.int .i64 y_28.X,.int .i64 y_28.Y] rfl rfl wa (bA sz9 ag9 rfl (vS y_28.Player) rfl wa (aG (vB (sLe x_5.Player y_28.Player)) wa rfl (aa (vB (sLe x_5.Player y_28.Player)) (aa (vB (sLe x_5.Player y_28.Player)) (ah ?_))))))
         obtain rfl:=ae h_26
         exact cu
        ·refine aC rfl hc_27 wz (af (af (af (af (af (af (af (af (af (aa (vB false) (aa (vB false) (ah ?_))))))))))))
         obtain rfl:=ae h_26
         exact cu
       ·rintro ⟨⟩ _ sl_ H_ hp_ hq_
        refine aO _ hp_ hq_ ?_
        rcases aj hc_9 with⟨hc_30,hc_9⟩|⟨hc_30,hc_9⟩
        ·refine aA rfl hc_30 (ai (aa (vI 7) (ah ?_)))
         obtain rfl:=ae hc_9
         obtain rfl:=ae hL_10
         obtain rfl:=ae hF
         exact ay (aK [(vI 7)] ⟨rfl,trivial⟩)
        ·refine ax rfl hc_30 (av (au (fq (bH hD_6 hn_7) wz rfl (aa (vI ((k_3+1:Nat):Int)) (ah ?_)))))
         obtain rfl:=ae hc_9
         exact aS (k_3+1,l_4,()) ⟨hL_10,aR hD_6⟩ (ls_ _) rfl (aI rfl)
  ·rintro s_8 ho_ sl_ H_ hp_ hq_
   subst ho_
   refine aO _ hp_ hq_ (ai (aa (vI 0) (ah ?_)))
   obtain rfl:=ae hF
   exact ay (aK [(vI 0)] ⟨rfl,trivial⟩)
theorem yO {l_1:(List Alert)} {posts_2:(List Post)} {r:Int} (hF:jU l_1 posts_2=some r) :
  FnM Tryz.prog 64 [(vL Alert.enc l_1),(vL Post.enc posts_2)] [] (vI r) []:=by
 refine FnM.of_wH ⟨Tryz.prog,13,[],[]⟩ rfl Tryz.func64 rfl rfl (lb_ rfl) (by kernel_rfl) ?_
 unfold jU at hF
 refine ai (aa (vI 0) (ah (ak (ai (aa (vL Alert.enc l_1) ?_)))))
 obtain ⟨r_3,hr_4,hF⟩:=bind_some hF
 refine aB (w9 hr_4) rfl hb100 rfl rfl rfl rfl wz (aa (vI r_3) (ah (ai (aa (vI r_3) (aa (vB (r_3 != 0)) (ah ?_))))))
 rcases aj hF with⟨hc_5,hF⟩|⟨hc_5,hF⟩
 ·refine aA rfl hc_5 (ai (aa (vI r_3) (aa (vI r_3) (ah ?_))))
  obtain rfl:=ae hF
  exact ay (aK [(vI r_3)] ⟨rfl,trivial⟩)
 ·refine ax rfl hc_5 (av (ai (aa (vL Post.enc posts_2) ?_)))
  obtain ⟨r_6,hr_7,hF⟩:=bind_some hF
  refine aB (x8 hr_7) rfl hb101 rfl rfl rfl rfl wz (aa (vI r_6) (ah ?_))
  obtain rfl:=ae hF
  exact ay (aK [(vI r_6)] ⟨rfl,trivial⟩)
theorem yS {r_1:Rect} {p_2:Post} {r:Bool} (hF:qi r_1 p_2=some r) :
  FnM Tryz.prog 103 [(.d (.agg (Rect.enc r_1))),(.ref (aD 0) 0 0)] [(.cells 3 (Post.v p_2))] (vB r) [some (.cells 3 (Post.v p_2))]:=by
 refine FnM.of_wH ⟨Tryz.prog,36,[],[]⟩ rfl Tryz.func103 rfl rfl (lb_ rfl) (by kernel_rfl) ?_
 unfold qi at hF
 refine ai (gZ 0 (.inl rfl) (Rect.v r_1) rfl rfl wz (λn_3=>aa (vB false) (ah (ak ?_))))
 obtain ⟨v_4,h_5,hF⟩:=bind_some hF
 refine aM [(3,(vB v_4))] [((aD 0),some (.cells 3 (Post.v p_2))),(n_3,some (.cells 4 (Rect.v r_1)))] ?_ ?_
 ·refine au (aJ Ab rfl 0 rfl wz (aH 0 1 il ft sz3 ag3 rfl rfl (vI r_1.X) rfl wz (aJ JK rfl 1 rfl wz (aH 0 0 il ft sz3 ag3 rfl rfl (vI p_2.X) rfl wz (aa (vB (decide (r_1.X<=p_2.X))) ?_)))))
  rcases aj h_5 with⟨hc_6,h_5⟩|⟨hc_6,h_5⟩
  ·refine aC rfl hc_6 wz (aJ JK rfl 1 rfl wa (aH 0 0 il ft sz3 ag3 rfl rfl (vI p_2.X) rfl wa (aJ Ab rfl 0 rfl wa (aH 0 1 il ft sz3 ag3 rfl rfl (vI r_1.X) rfl wa (aJ Gt rfl 2 rfl wa (aH 0 1 il ft sz3 ag3 rfl rfl (vI r_1.W) rfl wa (aG (vI (w64 (r_1.X+r_1.W))) wa rfl (aG (vB (decide (p_2.X<(w64 (r_1.X+r_1.W))))) wa rfl (aa (vB (decide (p_2.X<(w64 (r_1.X+r_1.W))))) ?_)))))))))
   rcases aj h_5 with⟨hc_7,h_5⟩|⟨hc_7,h_5⟩
   ·refine aC rfl hc_7 wz (aJ wY rfl 1 rfl wa (aH 0 1 il ft sz3 ag3 rfl rfl (vI r_1.Y) rfl wa (aJ Jr rfl 2 rfl wa (aH 0 0 il ft sz3 ag3 rfl rfl (vI p_2.Y) rfl wa (aG (vB (decide (r_1.Y<=p_2.Y))) wa rfl (aa (vB (decide (r_1.Y<=p_2.Y))) ?_))))))
    rcases aj h_5 with⟨hc_8,h_5⟩|⟨hc_8,h_5⟩
    ·refine aC rfl hc_8 wz (aJ Jr rfl 2 rfl wa (aH 0 0 il ft sz3 ag3 rfl rfl (vI p_2.Y) rfl wa (aJ wY rfl 1 rfl wa (aH 0 1 il ft sz3 ag3 rfl rfl (vI r_1.Y) rfl wa (aJ Dv rfl 3 rfl wa (aH 0 1 il ft sz3 ag3 rfl rfl (vI r_1.H) rfl wa (aG (vI (w64 (r_1.Y+r_1.H))) wa rfl (aG (vB (decide (p_2.Y<(w64 (r_1.Y+r_1.H))))) wa rfl (aa (vB (decide (p_2.Y<(w64 (r_1.Y+r_1.H))))) (aa (vB (decide (p_2.Y<(w64 (r_1.Y+r_1.H))))) (ah ?_)))))))))))
     obtain rfl:=ae h_5
     exact cu
    ·refine aC rfl hc_8 wz (af (af (af (af (af (af (af (af (aa (vB false) (aa (vB false) (ah ?_)))))))))))
     obtain rfl:=ae h_5
     exact cu
   ·refine aC rfl hc_7 wz (af (af (af (af (af (aa (vB false) (aa (vB false) (af (af (af (af (af (af (af (af (aa (vB false) (aa (vB false) (ah ?_))))))))))))))))))
    obtain rfl:=ae h_5
    exact cu
  ·refine aC rfl hc_6 wz (af (af (af (af (af (af (af (af (aa (vB false) (aa (vB false) (af (af (af (af (af (aa (vB false) (aa (vB false) (af (af (af (af (af (af ?_)))))))))))))))))))))))
   refine af (af (aa (vB false) (aa (vB false) (ah ?_))))
   obtain rfl:=ae h_5
   exact cu
 ·rintro ⟨⟩ _ sl_ H_ hp_ hq_
  refine aO _ hp_ hq_ ?_
  obtain rfl:=ae hF
  exact ay (LA (.inr rfl) [(vB v_4)] _ [0] [aD 0] ⟨rfl,trivial⟩ (.cons (qP rfl rfl) (.nil)) (by kernel_rfl) ⟨(by kernel_rfl),trivial⟩ (by decide) (by kernel_rfl))
theorem lw {s_1:(List Rect)} {f_2:Rect->Option Bool} {r:Int} {gid:FuncId} {caps:List V} {Sin:List Box} (hfn:∀x0 r,f_2 x0=some r->FnM Tryz.prog gid ([(.d (.agg (Rect.enc x0)))]++caps) Sin (vB r) (Sin.map some)) (hbF:aF Tryz.prog gid=true) (hcapF:caps.flatMap frz=[]/\caps.map co0=caps) (hokF:okL Sin.length caps=true) (hsF:∀b∈Sin,b.ok Sin.length=true) (hmF:∀b∈Sin,b.mut=true) (hF:fA s_1 f_2=some r) :
  FnM Tryz.prog 134 [(vL Rect.enc s_1),(.fn gid caps)] Sin (vI r) (Sin.map some):=by
 refine FnM.of_wH ⟨Tryz.prog,19,[],[]⟩ rfl Tryz.func134 rfl rfl (lb_ rfl) (by kernel_rfl) ?_
 unfold fA at hF
 refine ai (aa (vI 0) (ah (ak (ai (aa (vL Rect.enc s_1) (bG AC rfl wz (aa (vI 0) (ah ?_))))))))
 obtain ⟨o_11,hj_12,hF⟩:=bind_some hF
 obtain ⟨hn_7,hj_12⟩:=bg hj_12
 refine cK (λ(s_8:Unit)=>[]) (λ(s_8:Unit)=>(pE 0 Sin)) (λ(k_3:Nat)=>(λ(s_8:Unit)=>[(0,(vL Rect.enc s_1)),(1,(.fn gid caps)),(7,(vI (s_1.length:Int))),(8,(vI (k_3:Int)))])) (λk x s=>eu f_2 k x s) o_11 s_1 () hj_12 rfl (CE _) ?_ ?_
 ·rintro ⟨k_3,l_4,s_8⟩ ⟨hL_10,hD_6⟩
  dsimp only at hL_10 hD_6
  cases l_4 with
  | nil =>
   obtain rfl:=ae hL_10
   refine ai (aa (vB (decide ((k_3:Int)<(s_1.length:Int)))) (ah ?_))
   refine ak (ax rfl (drop_nil hD_6) (aV ?_))
   exact aU (s_8) rfl rfl (CE _)
  | cons x_5 l_4 =>
   obtain ⟨c_,hc_9,hL_10⟩:=bind_some hL_10
   refine ai (aa (vB (decide ((k_3:Int)<(s_1.length:Int)))) (ah ?_))
   refine ak (aA rfl (bz hD_6) (av ?_))
   unfold eu at hc_9
   refine ak (aN (ai (aa (vI (k_3:Int)) (aa (vI (k_3:Int)) (ah (ai (aa (.fn gid caps) (aa (vL Rect.enc s_1) (aa (vI (k_3:Int)) (dB E5 rfl rfl (bK hD_6) rfl wz (bA wR Iz rfl (.d (.agg (Rect.enc x_5))) rfl wz ?_)))))))))))
   obtain ⟨r_13,hr_14,hc_9⟩:=bind_some hc_9
   refine Kc (hfn _ _ hr_14) rfl hbF rfl rfl hcapF hokF hsF hmF rfl wz rfl (ah ?_)
   rcases aj hc_9 with⟨hc_15,hc_9⟩|⟨hc_15,hc_9⟩
   ·refine aA rfl hc_15 (ai (aa (vI (k_3:Int)) (aa (vI (k_3:Int)) (ah ?_))))
    obtain rfl:=ae hc_9
    obtain rfl:=ae hL_10
    obtain rfl:=ae hF
    exact ay (finS hsF (.inr rfl) [(vI (k_3:Int))] ⟨rfl,trivial⟩ rfl rfl rfl)
   ·refine ax rfl hc_15 (av (au (fq (bH hD_6 hn_7) wz rfl (aa (vI ((k_3+1:Nat):Int)) (ah ?_)))))
    obtain rfl:=ae hc_9
    exact aS (k_3+1,l_4,()) ⟨hL_10,aR hD_6⟩ (ls_ _) rfl (CE _)
 ·rintro s_8 ho_ sl_ H_ hp_ hq_
  subst ho_
  refine aO _ hp_ hq_ (ai (aa (vI (-1)) (ah ?_)))
  obtain rfl:=ae hF
  exact ay (finS hsF (.inr rfl) [(vI (-1))] ⟨rfl,trivial⟩ rfl rfl rfl)
theorem ko {s_1:(List Rect)} {f_2:Rect->Option Bool} {r:Bool} {gid:FuncId} {caps:List V} {Sin:List Box} (hfn:∀x0 r,f_2 x0=some r->FnM Tryz.prog gid ([(.d (.agg (Rect.enc x0)))]++caps) Sin (vB r) (Sin.map some)) (hbF:aF Tryz.prog gid=true) (hcapF:caps.flatMap frz=[]/\caps.map co0=caps) (hokF:okL Sin.length caps=true) (hsF:∀b∈Sin,b.ok Sin.length=true) (hmF:∀b∈Sin,b.mut=true) (hF:dZ s_1 f_2=some r) :
  FnM Tryz.prog 102 [(vL Rect.enc s_1),(.fn gid caps)] Sin (vB r) (Sin.map some):=by
 refine FnM.of_wH ⟨Tryz.prog,9,[],[]⟩ rfl Tryz.func102 rfl rfl (lb_ rfl) (by kernel_rfl) ?_
 unfold dZ at hF
 refine ai (aa (vB false) (ah (ai (aa (vL Rect.enc s_1) (aa (.fn gid caps) ?_)))))
 obtain ⟨r_3,hr_4,hF⟩:=bind_some hF
 refine Kc (lw (gid:=gid) (caps:=caps) (Sin:=Sin) hfn hbF hcapF hokF hsF hmF hr_4) rfl hb134 rfl rfl ⟨rfl,rfl⟩ (by simp [okL,okV,hokF]) hsF hmF rfl wz rfl (aa (vB (decide (r_3>=0))) (aa (vB (decide (r_3>=0))) (ah ?_)))
 obtain rfl:=ae hF
 exact ay (finS hsF (.inr rfl) [(vB (decide (r_3>=0)))] ⟨rfl,trivial⟩ rfl rfl rfl)
theorem Al {a_1:Alert} {p_2:Post} {r:Bool} (hF:o7 a_1 p_2=some r) :
  FnM Tryz.prog 65 [(.d (.agg (Alert.enc a_1))),(.d (.agg (Post.enc p_2)))] [] (vB r) []:=by
 refine FnM.of_wH ⟨Tryz.prog,9,[],[]⟩ rfl Tryz.func65 rfl rfl (lb_ rfl) (by kernel_rfl) ?_
 unfold o7 at hF
 refine ai (gZ 0 (.inl rfl) (Alert.v a_1) rfl rfl wz (λn_3=>gZ 0 (.inl rfl) (Post.v p_2) rfl rfl wz (λn_4=>aa (vB false) (ah (ai (aJ Fv rfl 7 rfl wz (aH 0 0 il ft Md Ls rfl rfl (vL Rect.enc a_1.Areas) rfl wz (aa (.fn 103 [(.ref n_4 0 0)]) ?_))))))))
 obtain ⟨r_5,hr_6,hF⟩:=bind_some hF
 refine uS 0 [1] il ft (ko (gid:=103) (caps:=[.ref (aD 0) 0 0]) (Sin:=[(.cells 3 (Post.v p_2))]) (λ_ _ h_=>yS h_) hb103 ⟨rfl,rfl⟩ (by kernel_rfl) (all_ok (by kernel_rfl)) (all_mut (by kernel_rfl)) hr_6) rfl hb102 rfl (by kernel_rfl) (by kernel_rfl) (by kernel_rfl) (by kernel_rfl) (by kernel_rfl) (by kernel_rfl) (by kernel_rfl) (by decide) (by kernel_rfl) wz (vB r_5) (by kernel_rfl) ([(n_3,some (.cells 9 (Alert.v a_1))),(n_4,some (.cells 3 (Post.v p_2)))]:Hp) (by kernel_rfl) (aa (vB r_5) (ah ?_))
 obtain rfl:=ae hF
 exact ay (aK [(vB r_5)] ⟨rfl,trivial⟩)
theorem Ac {a_1:Alert} {p_2:Post} {r:Bool×Int} (hF:l7 a_1 p_2=some r) :
  FnM Tryz.prog 38 [(.d (.agg (Alert.enc a_1))),(.d (.agg (Post.enc p_2)))] [] (.tup [(vB r.1),(vI r.2)]) []:=by
 refine FnM.of_wH ⟨Tryz.prog,18,[],[]⟩ rfl Tryz.func38 rfl rfl (lb_ rfl) (by kernel_rfl) ?_
 unfold l7 at hF
 refine ai (gZ 0 (.inl rfl) (Alert.v a_1) rfl rfl wz (λn_3=>gZ 0 (.inl rfl) (Post.v p_2) rfl rfl wz (λn_4=>aa (vB false) (aa (vI 0) (ah (ak (ai (aH 0 0 il ft BJ FZ rfl rfl (.d (.agg (Alert.enc a_1))) rfl wz (iK (([a_1]:List Alert).map Alert.enc) K8 ez127 rfl rfl rfl rfl rfl wz (aH 0 1 il ft sz99 ag99 rfl rfl (.d (.agg (Post.enc p_2))) rfl wz (iK (([p_2]:List Post).map Post.enc) Nc ez128 rfl rfl rfl rfl rfl wz ?_)))))))))))
 obtain ⟨r_5,hr_6,hF⟩:=bind_some hF
 refine aB (yO hr_6) rfl hb64 rfl rfl rfl rfl wz (aa (vI r_5) (ah (ai (aa (vI r_5) (aa (vB (r_5 != 0)) (ah ?_))))))
 rcases aj hF with⟨hc_7,hF⟩|⟨hc_7,hF⟩
 ·refine aA rfl hc_7 (ai (aa (vI r_5) (aa (vB false) (aa (vI r_5) (ah ?_)))))
  obtain rfl:=ae hF
  exact ay (aK [(vB false),(vI r_5)] ⟨rfl,⟨rfl,trivial⟩⟩)
 ·refine ax rfl hc_7 (av (ai (aH 0 0 il ft BJ FZ rfl rfl (.d (.agg (Alert.enc a_1))) rfl wz (aH 0 1 il ft sz99 ag99 rfl rfl (.d (.agg (Post.enc p_2))) rfl wz ?_))))
  obtain ⟨r_8,hr_9,hF⟩:=bind_some hF
  refine aB (Al hr_9) rfl hb65 rfl rfl rfl rfl wz (aa (vB r_8) (aa (vI 0) (ah ?_)))
  obtain rfl:=ae hF
  exact ay (aK [(vB r_8),(vI 0)] ⟨rfl,⟨rfl,trivial⟩⟩)
theorem El {r:Bool} (hF:oz  = some r) :
  FnM Tryz.prog 18 [] [] (vB r) []:=by
 refine FnM.of_wH ⟨Tryz.prog,75,[],[]⟩ rfl Tryz.func18 rfl rfl (lb_ rfl) (by kernel_rfl) ?_
 unfold oz at hF
 refine ai (aa (vB false) (ah (ai (aG (.d (.agg (Rect.enc (⟨0,0,2,2⟩:Rect)))) wz (by kernel_rfl) (aG (.d (.agg (Rect.enc (⟨1,1,2,2⟩:Rect)))) wz (by kernel_rfl) (iK (([(⟨0,0,2,2⟩:Rect),(⟨1,1,2,2⟩:Rect)]:List Rect).map Rect.enc) E5 ez79 rfl rfl rfl rfl rfl wz ?_))))))
 obtain ⟨r_1,hr_2,hF⟩:=bind_some hF
 refine aB (DU hr_2) rfl hb34 rfl rfl rfl rfl wz (aa (.tup [(vI r_1.1),(vI r_1.2)]) (aa (vI r_1.1) (aa (vI r_1.2) (aa (vI r_1.1) (aa (vI r_1.2) (ah (ai (aG (.agg [(vS (⟨#[97]⟩:ByteArray)),(vS (⟨#[98]⟩:ByteArray)),(vI 0),(vI 0),(vI 0),(vI 1),(vI 127),.nil,(vI 1),(vI 2),(vI 0),.nil,(vB false)]) wz (by kernel_rfl) (aG (.d (.agg (Window.enc (⟨0,86400000⟩:Window)))) wz (by kernel_rfl) ?_)))))))))
 obtain ⟨r_3,hr_4,hF⟩:=bind_some hF
 refine aB (zn hr_4) rfl hb35 rfl rfl rfl rfl wz (aa (.tup [(vL Window.enc r_3.1),(vI r_3.2)]) (aa (vL Window.enc r_3.1) (aa (vI r_3.2) (aa (vL Window.enc r_3.1) (aa (vI r_3.2) (ah (ai (aG (.d (.agg (Window.enc (⟨0,100⟩:Window)))) wz (by kernel_rfl) (aG (.agg [(vS (⟨#[97]⟩:ByteArray)),(vS (⟨#[]⟩:ByteArray)),(vI 0),(vI 100),.nil,(vI 10),(vI 0),(vI 0)]) wz (by kernel_rfl) ?_)))))))))
 obtain ⟨r_5,hr_6,hF⟩:=bind_some hF
 refine aB (Dl hr_6) rfl hb36 rfl rfl rfl rfl wz (aa (.tup [(vI r_5.1),(vI r_5.2)]) (aa (vI r_5.1) (aa (vI r_5.2) (aa (vI r_5.1) (aa (vI r_5.2) (ah (ai (aG (.d (.agg (Beat.enc (⟨(⟨#[112]⟩:ByteArray),0,100⟩:Beat)))) wz (by kernel_rfl) (aG (.d (.agg (Beat.enc (⟨(⟨#[112]⟩:ByteArray),1000,1300⟩:Beat)))) wz (by kernel_rfl) (iK (([(⟨(⟨#[112]⟩:ByteArray),0,100⟩:Beat),(⟨(⟨#[112]⟩:ByteArray),1000,1300⟩:Beat)]:List Beat).map Beat.enc) LU ez93 rfl rfl rfl rfl rfl wz ?_))))))))))
 obtain ⟨r_7,hr_8,hF⟩:=bind_some hF
 refine aB (DT hr_8) rfl hb37 rfl rfl rfl rfl wz (aa (.tup [(vI r_7.1),(vI r_7.2)]) (aa (vI r_7.1) (aa (vI r_7.2) (aa (vI r_7.1) (aa (vI r_7.2) (ah (aO (H0:=([]:Hp)) ([(1,(vI r_1.1)),(2,(vI r_1.2)),(3,(vL Window.enc r_3.1)),(4,(vI r_3.2)),(5,(vI r_5.1)),(6,(vI r_5.2)),(7,(vI r_7.1)),(8,(vI r_7.2))]:SL_) (by kernel_rfl) (Am (by kernel_rfl)) (ai (aG (.d (.agg (Rect.enc (⟨0,0,2,2⟩:Rect)))) wz (by kernel_rfl) (iK (([(⟨0,0,2,2⟩:Rect)]:List Rect).map Rect.enc) E5 ez79 rfl rfl rfl rfl rfl wz (aG (.agg [(vS (⟨#[97]⟩:ByteArray)),(vS (⟨#[115]⟩:ByteArray)),(vI 1),.nil,(vI 0),(vI 5),(vI 1),(vL Rect.enc ([(⟨0,0,2,2⟩:Rect)]:List Rect)),(vS (⟨#[120]⟩:ByteArray))]) wz (by kernel_rfl) (dK 0 (.inl rfl) z95 rfl wz (λn_9=>gP 0 il ft 0 BJ rfl rfl [(vS (⟨#[97]⟩:ByteArray)),(vS (⟨#[115]⟩:ByteArray)),(vI 1),.nil,(vI 0),(vI 5),(vI 1),(vL Rect.enc ([(⟨0,0,2,2⟩:Rect)]:List Rect)),(vS (⟨#[120]⟩:ByteArray))] rfl wz (ah (ai (aH 0 0 il ft BJ FZ rfl rfl (.agg [(vS (⟨#[97]⟩:ByteArray)),(vS (⟨#[115]⟩:ByteArray)),(vI 1),.nil,(vI 0),(vI 5),(vI 1),(vL Rect.enc ([(⟨0,0,2,2⟩:Rect)]:List Rect)),(vS (⟨#[120]⟩:ByteArray))]) rfl wz (aG (.d (.agg (Post.enc (⟨(⟨#[112]⟩:ByteArray),1,1⟩:Post)))) wz (by kernel_rfl) ?_)))))))))))))))))
 obtain ⟨r_10,hr_11,hF⟩:=bind_some hF
 refine aB (Ac hr_11) rfl hb38 rfl rfl rfl rfl wz (aa (.tup [(vB r_10.1),(vI r_10.2)]) (aa (vB r_10.1) (aa (vI r_10.2) (aa (vB r_10.1) (aa (vI r_10.2) (ah (ak ?_)))))))
 obtain ⟨v_12,h_13,hF⟩:=bind_some hF
 refine aM [(0,(vB v_12))] [(n_9,some (.cells 9 [(vS (⟨#[97]⟩:ByteArray)),(vS (⟨#[115]⟩:ByteArray)),(vI 1),.nil,(vI 0),(vI 5),(vI 1),(vL Rect.enc ([(⟨0,0,2,2⟩:Rect)]:List Rect)),(vS (⟨#[120]⟩:ByteArray))]))] ?_ ?_
 ·refine au (aa (vI r_1.2) (aa (vI r_3.2) (aa (vI r_5.2) (aa (vI r_7.2) (aa (vI r_10.2) (iK (([r_1.2,r_3.2,r_5.2,r_7.2,r_10.2]:List Int).map eI) es54 ez54 rfl rfl rfl rfl rfl wz ?_))))))
  obtain ⟨r_14,hr_15,h_13⟩:=bind_some h_13
  refine aB (vC hr_15) rfl hb9 rfl rfl rfl rfl wz (aa (vB (r_14==0)) ?_)
  rcases aj h_13 with⟨hc_16,h_13⟩|⟨hc_16,h_13⟩
  ·refine aC rfl hc_16 wz (aG (vI r_1.1) wa rfl (aG (vB (r_1.1==7)) wa rfl (aa (vB (r_1.1==7)) ?_)))
   rcases aj h_13 with⟨hc_17,h_13⟩|⟨hc_17,h_13⟩
   ·refine aC rfl hc_17 wz (aG (vL Window.enc r_3.1) wa rfl (bG un80 rfl wa (aG (vB ((r_3.1.length:Int)==1)) wa rfl (aa (vB ((r_3.1.length:Int)==1)) ?_))))
    rcases aj h_13 with⟨hc_18,h_13⟩|⟨hc_18,h_13⟩
    ·refine aC rfl hc_18 wz (aG (vI r_5.1) wa rfl (aG (vB (r_5.1==5)) wa rfl (aa (vB (r_5.1==5)) ?_)))
     rcases aj h_13 with⟨hc_19,h_13⟩|⟨hc_19,h_13⟩
     ·refine aC rfl hc_19 wz (aG (vI r_7.1) wa rfl (aG (vB (r_7.1==500)) wa rfl (aa (vB (r_7.1==500)) ?_)))
      rcases aj h_13 with⟨hc_20,h_13⟩|⟨hc_20,h_13⟩
      ·refine aC rfl hc_20 wz (aG (vB r_10.1) wa rfl (aa (vB r_10.1) (aa (vB r_10.1) (ah ?_))))
       obtain rfl:=ae h_13
       exact cu
      ·refine aC rfl hc_20 wz (af (aa (vB false) (aa (vB false) (ah ?_))))
       obtain rfl:=ae h_13
       exact cu
     ·refine aC rfl hc_19 wz (af (af (aa (vB false) (aa (vB false) (af (aa (vB false) (aa (vB false) (ah ?_))))))))
      obtain rfl:=ae h_13
      exact cu
    ·refine aC rfl hc_18 wz (af (af (aa (vB false) (aa (vB false) (af (af (aa (vB false) (aa (vB false) (af (aa (vB false) (aa (vB false) (ah ?_))))))))))))
     obtain rfl:=ae h_13
     exact cu
   ·refine aC rfl hc_17 wz (af (af (af (aa (vB false) (aa (vB false) (af (af (aa (vB false) (aa (vB false) (af (af (aa (vB false) (aa (vB false) (af (aa (vB false) (aa (vB false) (ah ?_)))))))))))))))))
    obtain rfl:=ae h_13
    exact cu
  ·refine aC rfl hc_16 wz (af (af (aa (vB false) (aa (vB false) (af (af (af (aa (vB false) (aa (vB false) (af (af (aa (vB false) (aa (vB false) (af (af (aa (vB false) (aa (vB false) (af (aa (vB false) (aa (vB false) (ah ?_)))))))))))))))))))))
   obtain rfl:=ae h_13
   exact cu
 ·rintro ⟨⟩ _ sl_ H_ hp_ hq_
  refine aO _ hp_ hq_ ?_
  obtain rfl:=ae hF
  exact ay (aK [(vB v_12)] ⟨rfl,trivial⟩)
end Go.Proofs.YtnkgapmhkhcanabGreatDoor.Law

