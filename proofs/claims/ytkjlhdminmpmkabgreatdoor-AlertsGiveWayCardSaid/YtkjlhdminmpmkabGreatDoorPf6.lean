/-
 The machine computes these plain functions (written by a program of ours).
-/
import Derived.Test.YtkjlhdminmpmkabGreatDoorFacts
import Derived.Test.YtkjlhdminmpmkabGreatDoorDefs
import Derived.Test.YtkjlhdminmpmkabGreatDoorPf5
open Go Go.Eng Go.Proofs
namespace Go.Proofs.YtkjlhdminmpmkabGreatDoor.Law
set_option maxRecDepth 100000
set_option linter.unusedVariables false
set_option maxHeartbeats 1000000
theorem Dx {l_1:(List Beat_)} {n_2:Int} {r:Int×Int} (hF:pG l_1 n_2=some r) :
  FnM Tryz.prog 111 [(vL Beat_.enc l_1),(vI n_2)] [] (.tup [(vI r.1),(vI r.2)]) []:=by
 refine FnM.of_wH ⟨Tryz.prog,108,[],[]⟩ rfl Tryz.func111 rfl rfl (lb_ rfl) (by kernel_rfl) ?_
 unfold pG at hF
 refine ai (aa (vI 0) (aa (vI 0) (ah (ak (ai (aa (vL Beat_.enc l_1) (bG OT rfl wz (aa (vB ((l_1.length:Int)==0)) (ah ?_)))))))))
 rcases aj hF with⟨hc_3,hF⟩|⟨hc_3,hF⟩
 ·refine ay rfl hc_3 (ai (aa (vI 0) (aa (vI 8) (ah ?_))))
  obtain rfl:=ae hF
  exact aA (aK [(vI 0),(vI 8)] ⟨rfl,⟨rfl,trivial⟩⟩)
 ·refine ax rfl hc_3 (av (ai (aa (vI 0) (ah (ak ?_)))))
  obtain ⟨o_12,hj_13,hF⟩:=bind_some hF
  obtain ⟨nq_51,hj_13⟩:=dw hj_13
  refine eZ (λ(s_9:Int)=>[(0,(vL Beat_.enc l_1)),(1,(vI n_2)),(6,(vI s_9))]) (λ(s_9:Int)=>[]) (λ(k_4:Nat)=>(λ(s_9:Int)=>[(0,(vL Beat_.enc l_1)),(1,(vI n_2)),(6,(vI s_9))])) (λs=>oo l_1 n_2 s) o_12 nq_51 0 hj_13 rfl (aH rfl) ?_ ?_
  ·rintro ⟨k_4,s_9⟩ hL_11
   dsimp only at hL_11
   cases k_4 with
   | zero=>cases hL_11
   | succ k_4 =>
    obtain ⟨c_,hc_10,hL_11⟩:=bind_some hL_11
    unfold oo at hc_10
    refine ak (ak ?_)
    obtain ⟨v_14,h_15,hc_10⟩:=bind_some hc_10
    refine aP [(0,(vL Beat_.enc l_1)),(1,(vI n_2)),(6,(vI s_9)),(25,(vB v_14))] [] ?_ ?_
    ·refine au (aa (vI s_9) (aa (vL Beat_.enc l_1) (bG OT rfl wz (aa (vB (decide (s_9<(l_1.length:Int)))) ?_))))
     rcases aj h_15 with⟨hc_16,h_15⟩|⟨hc_16,h_15⟩
     ·refine aB rfl hc_16 wz (aJ (vL Beat_.enc l_1) wa rfl (aJ (vI s_9) wa rfl ?_))
      obtain ⟨y_17,hy_18,h_15⟩:=bind_some h_15
      refine dY Bd rfl rfl hy_18 rfl wa (rQ uG rfl [.int .i64 y_17.f_from,.int .i64 y_17.f_to] rfl rfl wa (bI sz3 ag3 rfl (vI y_17.f_from) rfl wa (aJ (vI n_2) wa rfl (aJ (vB (decide (y_17.f_from<=n_2))) wa rfl (aa (vB (decide (y_17.f_from<=n_2))) (ah ?_))))))
      obtain rfl:=ae h_15
      exact cu
     ·refine aB rfl hc_16 wz (af (af (af (af (af (af (af (aa (vB false) (ah ?_)))))))))
      obtain rfl:=ae h_15
      exact cu
    ·rintro ⟨⟩ _ sl_ H_ hp_ hq_
     refine aN _ hp_ hq_ ?_
     rcases aj hc_10 with⟨hc_19,hc_10⟩|⟨hc_19,hc_10⟩
     ·refine ay rfl hc_19 (av (aL (au (aa (vI s_9) (aa (vI (w64 (s_9+1))) (aa (vI (w64 (s_9+1))) (ah ?_)))))))
      obtain rfl:=ae hc_10
      exact aU (k_4,(w64 (s_9+1))) hL_11 (ls_ _) rfl (aH rfl)
     ·refine ax rfl hc_19 (aW ?_)
      obtain rfl:=ae hc_10
      obtain rfl:=ae hL_11
      exact aS (s_9) rfl rfl (aH rfl)
  ·rintro s_9 ho_ sl_ H_ hp_ hq_
   subst ho_
   refine aN _ hp_ hq_ (ai (aa (vI 0) (ah (ak (aL (ai (aa (vI s_9) (aa (vB (s_9==0)) (aa (vB (s_9==0)) (ah ?_))))))))))
   rcases aj hF with⟨hc_20,hF⟩|⟨hc_20,hF⟩
   ·refine ay rfl hc_20 (bC (aa (vL Beat_.enc l_1) ?_))
    obtain ⟨y_21,hy_22,hF⟩:=bind_some hF
    refine dY Bd rfl rfl hy_22 rfl wz (rQ wR rfl [.int .i64 y_21.f_to] rfl rfl wz (bI sz3 ag3 rfl (vI y_21.f_to) rfl wz (aa (vL Beat_.enc l_1) ?_)))
    obtain ⟨y_23,hy_24,hF⟩:=bind_some hF
    refine dY Bd rfl rfl hy_24 rfl wz (rQ uG rfl [.int .i64 y_23.f_from,.int .i64 y_23.f_to] rfl rfl wz (bI sz3 ag3 rfl (vI y_23.f_from) rfl wz (aa (vI n_2) (aa (vI (w64 (y_23.f_from-n_2))) (aa (vI (w64 (y_21.f_to-(w64 (y_23.f_from-n_2))))) (aa (vI (w64 (y_21.f_to-(w64 (y_23.f_from-n_2))))) (ah (ak (ai (aa (vI (w64 (y_21.f_to-(w64 (y_23.f_from-n_2))))) ?_))))))))))
    obtain ⟨r_25,hr_26,hF⟩:=bind_some hF
    refine aF (iC hr_26) rfl KF rfl rfl rfl rfl wz (aa (vB (!r_25)) (ah ?_))
    rcases aj hF with⟨hc_27,hF⟩|⟨hc_27,hF⟩
    ·refine ay rfl hc_27 (ai (aa (vI 0) (aa (vI 11) (ah ?_))))
     obtain rfl:=ae hF
     exact aA (aK [(vI 0),(vI 11)] ⟨rfl,⟨rfl,trivial⟩⟩)
    ·refine ax rfl hc_27 (av (ai (aa (vI (w64 (y_21.f_to-(w64 (y_23.f_from-n_2))))) (aa (vI (w64 (y_21.f_to-(w64 (y_23.f_from-n_2))))) (aa (vI 0) (ah ?_))))))
     obtain rfl:=ae hF
     exact aA (aK [(vI (w64 (y_21.f_to-(w64 (y_23.f_from-n_2))))),(vI 0)] ⟨rfl,⟨rfl,trivial⟩⟩)
   ·refine ax rfl hc_20 (ai (aa (vI s_9) (aa (vL Beat_.enc l_1) (bG OT rfl wz (aa (vB (s_9==(l_1.length:Int))) (aa (vB (s_9==(l_1.length:Int))) (ah ?_)))))))
    rcases aj hF with⟨hc_28,hF⟩|⟨hc_28,hF⟩
    ·refine ay rfl hc_28 (bC (aa (vL Beat_.enc l_1) (aa (vI s_9) (aa (vI (w64 (s_9-1))) ?_))))
     obtain ⟨y_29,hy_30,hF⟩:=bind_some hF
     refine dY Bd rfl rfl hy_30 rfl wz (rQ wR rfl [.int .i64 y_29.f_to] rfl rfl wz (bI sz3 ag3 rfl (vI y_29.f_to) rfl wz (aa (vI n_2) (aa (vI (w64 (y_29.f_to+n_2))) (aa (vL Beat_.enc l_1) (aa (vI s_9) (aa (vI (w64 (s_9-1))) ?_)))))))
     obtain ⟨y_31,hy_32,hF⟩:=bind_some hF
     refine dY Bd rfl rfl hy_32 rfl wz (rQ uG rfl [.int .i64 y_31.f_from,.int .i64 y_31.f_to] rfl rfl wz (bI sz3 ag3 rfl (vI y_31.f_from) rfl wz (aa (vI (w64 ((w64 (y_29.f_to+n_2))-y_31.f_from))) (aa (vI (w64 ((w64 (y_29.f_to+n_2))-y_31.f_from))) (ah (ak (ai (aa (vI (w64 ((w64 (y_29.f_to+n_2))-y_31.f_from))) ?_))))))))
     obtain ⟨r_33,hr_34,hF⟩:=bind_some hF
     refine aF (iC hr_34) rfl KF rfl rfl rfl rfl wz (aa (vB (!r_33)) (ah ?_))
     rcases aj hF with⟨hc_35,hF⟩|⟨hc_35,hF⟩
     ·refine ay rfl hc_35 (ai (aa (vI 0) (aa (vI 11) (ah (aN (H0:=([]:Hp)) ([(4,(vI 0)),(5,(vI 11))]:SL_) (by kernel_rfl) (zZ (by kernel_rfl)) ?_)))))
      obtain rfl:=ae hF
      exact aA (aK [(vI 0),(vI 11)] ⟨rfl,⟨rfl,trivial⟩⟩)
     ·refine ax rfl hc_35 (av (ai (aa (vI (w64 ((w64 (y_29.f_to+n_2))-y_31.f_from))) (aa (vI (w64 ((w64 (y_29.f_to+n_2))-y_31.f_from))) (aa (vI 0) (ah (aN (H0:=([]:Hp)) ([(4,(vI (w64 ((w64 (y_29.f_to+n_2))-y_31.f_from)))),(5,(vI 0))]:SL_) (by kernel_rfl) (zZ (by kernel_rfl)) ?_)))))))
      obtain rfl:=ae hF
      exact aA (aK [(vI (w64 ((w64 (y_29.f_to+n_2))-y_31.f_from))),(vI 0)] ⟨rfl,⟨rfl,trivial⟩⟩)
    ·refine ax rfl hc_28 (ak (bC (aa (vL Beat_.enc l_1) (aa (vI s_9) (aa (vI (w64 (s_9-1))) ?_)))))
     obtain ⟨y_36,hy_37,hF⟩:=bind_some hF
     refine dY Bd rfl rfl hy_37 rfl wz (bI GK ag195 rfl (.d (.agg (Beat_.enc y_36))) rfl wz (aa (vL Beat_.enc l_1) (aa (vI s_9) ?_)))
     obtain ⟨y_38,hy_39,hF⟩:=bind_some hF
     refine dY Bd rfl rfl hy_39 rfl wz (bI GK ag195 rfl (.d (.agg (Beat_.enc y_38))) rfl wz (dC 9 (.inr (by kernel_rfl)) z195 rfl wz (λn_40=>dC 10 (.inr (by kernel_rfl)) z195 rfl wz (λn_41=>fB 11 (.inr (by kernel_rfl)) (λ_ _ ag=>⟨.inr (.inr (by kernel_rfl)),⟨.inr (.inr (by kernel_rfl)),trivial⟩⟩) 0 GK rfl rfl [(vI y_36.f_from),(vI y_36.f_to)] rfl wz (fB 12 (.inr (by kernel_rfl)) (λ_ _ ag=>⟨.inr (.inr (by kernel_rfl)),⟨.inr (.inr (by kernel_rfl)),⟨.inr (.inr (by kernel_rfl)),trivial⟩⟩⟩) 1 GK rfl rfl [(vI y_38.f_from),(vI y_38.f_to)] rfl wz (ah (ak (ak ?_))))))))
     obtain ⟨v_42,h_43,hF⟩:=bind_some hF
     refine aP [(1,(vI n_2)),(8,(.ref n_40 0 0)),(9,(.ref n_41 0 0)),(50,(vB v_42))] [(n_40,some (.cells 2 [(vI y_36.f_from),(vI y_36.f_to)])),(n_41,some (.cells 2 [(vI y_38.f_from),(vI y_38.f_to)]))] ?_ ?_
     ·refine au (aG uG rfl 0 rfl wz (aC 0 1 il ft sz3 ag3 rfl rfl (vI y_38.f_from) rfl wz (aG uG rfl 0 rfl wz (aC 0 0 il ft sz3 ag3 rfl rfl (vI y_36.f_from) rfl wz (aa (vI (w64 (y_38.f_from-y_36.f_from))) (aa (vB (decide ((w64 (y_38.f_from-y_36.f_from))>2592000000))) ?_))))))
      rcases aj h_43 with⟨hc_44,h_43⟩|⟨hc_44,h_43⟩
      ·refine aB rfl hc_44 wz (af (af (af (af (af (af (aa (vB true) (ah ?_))))))))
       obtain rfl:=ae h_43
       exact cu
      ·refine aB rfl hc_44 wz (aG wR rfl 1 rfl wa (aC 0 1 il ft sz3 ag3 rfl rfl (vI y_38.f_to) rfl wa (aG wR rfl 1 rfl wa (aC 0 0 il ft sz3 ag3 rfl rfl (vI y_36.f_to) rfl wa (aJ (vI (w64 (y_38.f_to-y_36.f_to))) wa rfl (aJ (vB (decide ((w64 (y_38.f_to-y_36.f_to))>2592000000))) wa rfl (aa (vB (decide ((w64 (y_38.f_to-y_36.f_to))>2592000000))) (ah ?_))))))))
       obtain rfl:=ae h_43
       exact cu
     ·rintro ⟨⟩ _ sl_ H_ hp_ hq_
      refine aN _ hp_ hq_ ?_
      rcases aj hF with⟨hc_45,hF⟩|⟨hc_45,hF⟩
      ·refine ay rfl hc_45 (ai (aa (vI 0) (aa (vI 2) (ah ?_))))
       obtain rfl:=ae hF
       exact aA (aK [(vI 0),(vI 2)] ⟨rfl,⟨rfl,trivial⟩⟩)
      ·refine ax rfl hc_45 (av (bC (aG wR rfl 1 rfl wz (aC 1 0 (.inr (by kernel_rfl)) (λ_ _ ag=>trivial) sz3 ag3 rfl rfl (vI y_36.f_to) rfl wz (aa (vI n_2) (aG uG rfl 0 rfl wz (aC 4 0 (.inr (by kernel_rfl)) (λ_ _ ag=>⟨.inl ⟨rfl,rfl⟩,trivial⟩) sz3 ag3 rfl rfl (vI y_36.f_from) rfl wz (aa (vI (w64 (n_2-y_36.f_from))) (aG wR rfl 1 rfl wz (aC 7 1 (.inr (by kernel_rfl)) (λ_ _ ag=>⟨.inl ⟨rfl,rfl⟩,⟨.inl ⟨rfl,rfl⟩,trivial⟩⟩) sz3 ag3 rfl rfl (vI y_38.f_to) rfl wz (aG wR rfl 1 rfl wz (aC 9 0 (.inr (by kernel_rfl)) (λ_ _ ag=>⟨.inl ⟨rfl,rfl⟩,⟨.inl ⟨rfl,rfl⟩,⟨.inl ⟨rfl,rfl⟩,trivial⟩⟩⟩) sz3 ag3 rfl rfl (vI y_36.f_to) rfl wz (aa (vI (w64 (y_38.f_to-y_36.f_to))) (aa (vI (w64 ((w64 (n_2-y_36.f_from))*(w64 (y_38.f_to-y_36.f_to))))) (aG uG rfl 0 rfl wz (aC 13 1 (.inr (by kernel_rfl)) (λ_ _ ag=>⟨.inl ⟨rfl,rfl⟩,⟨.inl ⟨rfl,rfl⟩,⟨.inl ⟨rfl,rfl⟩,⟨.inl ⟨rfl,rfl⟩,trivial⟩⟩⟩⟩) sz3 ag3 rfl rfl (vI y_38.f_from) rfl wz (aG uG rfl 0 rfl wz (aC 15 0 (.inr (by kernel_rfl)) (λ_ _ ag=>⟨.inl ⟨rfl,rfl⟩,⟨.inl ⟨rfl,rfl⟩,⟨.inl ⟨rfl,rfl⟩,⟨.inl ⟨rfl,rfl⟩,⟨.inl ⟨rfl,rfl⟩,trivial⟩⟩⟩⟩⟩) sz3 ag3 rfl rfl (vI y_36.f_from) rfl wz (aa (vI (w64 (y_38.f_from-y_36.f_from))) ?_)))))))))))))))))))
       obtain ⟨q_46,hz_47,hF⟩:=bind_some hF
       refine PT rfl rfl hz_47 wz (aa (vI (w64 (y_36.f_to+q_46))) (aa (vI (w64 (y_36.f_to+q_46))) (ah (ak (ai (aa (vI (w64 (y_36.f_to+q_46))) ?_))))))
       obtain ⟨r_48,hr_49,hF⟩:=bind_some hF
       refine aF (iC hr_49) rfl KF rfl rfl rfl rfl wz (aa (vB (!r_48)) (ah ?_))
       rcases aj hF with⟨hc_50,hF⟩|⟨hc_50,hF⟩
       ·refine ay rfl hc_50 (ai (aa (vI 0) (aa (vI 11) (ah ?_))))
        obtain rfl:=ae hF
        exact aA (aK [(vI 0),(vI 11)] ⟨rfl,⟨rfl,trivial⟩⟩)
       ·refine ax rfl hc_50 (av (ai (aa (vI (w64 (y_36.f_to+q_46))) (aa (vI (w64 (y_36.f_to+q_46))) (aa (vI 0) (ah ?_))))))
        obtain rfl:=ae hF
        exact aA (aK [(vI (w64 (y_36.f_to+q_46))),(vI 0)] ⟨rfl,⟨rfl,trivial⟩⟩)
theorem Eu {l_1:(List Beat)} {player_2:ByteArray} {n_3:Int} {back_4:Bool} {r:Int×Int} (hF:qL l_1 player_2 n_3 back_4=some r) :
  FnM Tryz.prog 69 [(vL Beat.enc l_1),(vS player_2),(vI n_3),(vB back_4)] [] (.tup [(vI r.1),(vI r.2)]) []:=by
 refine FnM.of_wH ⟨Tryz.prog,30,[],[]⟩ rfl Tryz.func69 rfl rfl (lb_ rfl) (by kernel_rfl) ?_
 unfold qL at hF
 refine ai (aa (vI 0) (aa (vI 0) (ah (ak (ai (aa (vL Beat.enc l_1) ?_))))))
 obtain ⟨r_5,hr_6,hF⟩:=bind_some hF
 refine aF (ze hr_6) rfl hb110 rfl rfl rfl rfl wz (aa (vI r_5) (ah (ai (aa (vI r_5) (aa (vB (r_5 != 0)) (ah ?_))))))
 rcases aj hF with⟨hc_7,hF⟩|⟨hc_7,hF⟩
 ·refine ay rfl hc_7 (ai (aa (vI r_5) (aa (vI 0) (aa (vI r_5) (ah ?_)))))
  obtain rfl:=ae hF
  exact aA (aK [(vI 0),(vI r_5)] ⟨rfl,⟨rfl,trivial⟩⟩)
 ·refine ax rfl hc_7 (av (ak (ai (aa (vS player_2) ?_))))
  obtain ⟨r_8,hr_9,hF⟩:=bind_some hF
  refine aF (iy hr_9) rfl Ep rfl rfl rfl rfl wz (aa (vB (!r_8)) (ah ?_))
  rcases aj hF with⟨hc_10,hF⟩|⟨hc_10,hF⟩
  ·refine ay rfl hc_10 (ai (aa (vI 0) (aa (vI 5) (ah ?_))))
   obtain rfl:=ae hF
   exact aA (aK [(vI 0),(vI 5)] ⟨rfl,⟨rfl,trivial⟩⟩)
  ·refine ax rfl hc_10 (av (ak (ai (aa (vI n_3) ?_))))
   obtain ⟨r_11,hr_12,hF⟩:=bind_some hF
   refine aF (iC hr_12) rfl KF rfl rfl rfl rfl wz (aa (vB (!r_11)) (ah ?_))
   rcases aj hF with⟨hc_13,hF⟩|⟨hc_13,hF⟩
   ·refine ay rfl hc_13 (ai (aa (vI 0) (aa (vI 1) (ah ?_))))
    obtain rfl:=ae hF
    exact aA (aK [(vI 0),(vI 1)] ⟨rfl,⟨rfl,trivial⟩⟩)
   ·refine ax rfl hc_13 (av (ai (aa (vL Beat.enc l_1) (aa (vS player_2) (aa (vB back_4) ?_)))))
    obtain ⟨r_14,hr_15,hF⟩:=bind_some hF
    refine aF (BS hr_15) rfl hb112 rfl rfl rfl rfl wz (aa (vI n_3) ?_)
    obtain ⟨r_16,hr_17,hF⟩:=bind_some hF
    refine aF (Dx hr_17) rfl hb111 rfl rfl rfl rfl wz (aa (vI r_16.1) (aa (vI r_16.2) (aa (vI r_16.1) (aa (vI r_16.2) (ah ?_)))))
    obtain rfl:=ae hF
    exact aA (aK [(vI r_16.1),(vI r_16.2)] ⟨rfl,⟨rfl,trivial⟩⟩)
theorem FY {l_1:(List Beat)} {player_2:ByteArray} {clock_3:Int} {r:Int×Int} (hF:qI l_1 player_2 clock_3=some r) :
  FnM Tryz.prog 42 [(vL Beat.enc l_1),(vS player_2),(vI clock_3)] [] (.tup [(vI r.1),(vI r.2)]) []:=by
 refine FnM.of_wH ⟨Tryz.prog,14,[],[]⟩ rfl Tryz.func42 rfl rfl (lb_ rfl) (by kernel_rfl) ?_
 unfold qI at hF
 refine ai (aa (vI 0) (aa (vI 0) (ah (ai (aa (vL Beat.enc l_1) (aa (vS player_2) (aa (vI clock_3) ?_)))))))
 obtain ⟨r_4,hr_5,hF⟩:=bind_some hF
 refine aF (Eu hr_5) rfl hb69 rfl rfl rfl rfl wz (aa (vI r_4.1) (aa (vI r_4.2) (aa (vI r_4.1) (aa (vI r_4.2) (ah ?_)))))
 obtain rfl:=ae hF
 exact aA (aK [(vI r_4.1),(vI r_4.2)] ⟨rfl,⟨rfl,trivial⟩⟩)
theorem zi {l_1:(List Post)} {r:Int} (hF:lh l_1=some r) :
  FnM Tryz.prog 113 [(vL Post.enc l_1)] [] (vI r) []:=by
 refine FnM.of_wH ⟨Tryz.prog,44,[],[]⟩ rfl Tryz.func113 rfl rfl (lb_ rfl) (by kernel_rfl) ?_
 unfold lh at hF
 refine ai (aa (vI 0) (ah (ak (ai (aa (vL Post.enc l_1) (bG un122 rfl wz (aa (vB (decide ((l_1.length:Int)>500))) (ah ?_))))))))
 rcases aj hF with⟨hc_2,hF⟩|⟨hc_2,hF⟩
 ·refine ay rfl hc_2 (ai (aa (vI 2) (ah ?_)))
  obtain rfl:=ae hF
  exact aA (aK [(vI 2)] ⟨rfl,trivial⟩)
 ·refine ax rfl hc_2 (av (ak (ai (aa (vL Post.enc l_1) (bG un122 rfl wz (aa (vI 0) (ah ?_)))))))
  obtain ⟨o_11,hj_12,hF⟩:=bind_some hF
  obtain ⟨hn_7,hj_12⟩:=aX hj_12
  refine bP (λ(s_8:Unit)=>[]) (λ(s_8:Unit)=>[]) (λ(k_3:Nat)=>(λ(s_8:Unit)=>[(0,(vL Post.enc l_1)),(8,(vL Post.enc l_1)),(9,(vI (l_1.length:Int))),(10,(vI (k_3:Int)))])) (λk x s=>jh l_1 k x s) o_11 l_1 () hj_12 rfl (aH rfl) ?_ ?_
  ·rintro ⟨k_3,l_4,s_8⟩ ⟨hL_10,hD_6⟩
   dsimp only at hL_10 hD_6
   cases l_4 with
   | nil =>
    obtain rfl:=ae hL_10
    refine ai (aa (vB (decide ((k_3:Int)<(l_1.length:Int)))) (ah ?_))
    refine ak (ax rfl (drop_nil hD_6) (aW ?_))
    exact aS (s_8) rfl rfl (aH rfl)
   | cons x_5 l_4 =>
    obtain ⟨c_,hc_9,hL_10⟩:=bind_some hL_10
    refine ai (aa (vB (decide ((k_3:Int)<(l_1.length:Int)))) (ah ?_))
    refine ak (ay rfl (aZ hD_6) (av ?_))
    unfold jh at hc_9
    refine ak (aL (ai (aa (vI (k_3:Int)) (dY Pp rfl rfl (bz hD_6) rfl wz (bI sz93 ag93 rfl (.d (.agg (Post.enc x_5))) rfl wz (dC 0 (.inl rfl) z93 rfl wz (λn_13=>aa (vI (k_3:Int)) (fB 0 il ft 0 sz93 rfl rfl (Post.v x_5) rfl wz (ah (aL (ai (aG KZ rfl 0 rfl wz (aC 0 0 il ft sz9 ag9 rfl rfl (vS x_5.Player) rfl wz ?_)))))))))))))
    obtain ⟨r_14,hr_15,hc_9⟩:=bind_some hc_9
    refine aF (iy hr_15) rfl Ep rfl rfl rfl rfl wz (aa (vB (!r_14)) (aa (vB (!r_14)) (ah ?_)))
    rcases aj hc_9 with⟨hc_16,hc_9⟩|⟨hc_16,hc_9⟩
    ·refine ay rfl hc_16 (ai (aa (vI 5) (ah ?_)))
     obtain rfl:=ae hc_9
     obtain rfl:=ae hL_10
     obtain rfl:=ae hF
     exact aA (aK [(vI 5)] ⟨rfl,trivial⟩)
    ·refine ax rfl hc_16 (ak ?_)
     obtain ⟨v_17,h_18,hc_9⟩:=bind_some hc_9
     refine aP [(0,(vL Post.enc l_1)),(3,(vI (k_3:Int))),(4,(.ref n_13 0 0)),(8,(vL Post.enc l_1)),(9,(vI (l_1.length:Int))),(10,(vI (k_3:Int))),(20,(vB v_17))] [(n_13,some (.cells 3 (Post.v x_5)))] ?_ ?_
     ·refine au (aG Mi rfl 1 rfl wz (aC 0 0 il ft sz3 ag3 rfl rfl (vI x_5.X) rfl wz ?_))
      obtain ⟨r_19,hr_20,h_18⟩:=bind_some h_18
      refine aF (bB hr_20) rfl sW rfl rfl rfl rfl wz ?_
      rcases aj h_18 with⟨hc_21,h_18⟩|⟨hc_21,h_18⟩
      ·refine aB rfl hc_21 wz (af (af (af (aa (vB true) (aa (vB true) (ah ?_))))))
       obtain rfl:=ae h_18
       exact cu
      ·refine aB rfl hc_21 wz (aG Lx rfl 2 rfl wa (aC 0 0 il ft sz3 ag3 rfl rfl (vI x_5.Y) rfl wa ?_))
       obtain ⟨r_22,hr_23,h_18⟩:=bind_some h_18
       refine aF (bB hr_23) rfl sW rfl rfl rfl rfl wa (aa (vB r_22) (aa (vB r_22) (ah ?_)))
       obtain rfl:=ae h_18
       exact cu
     ·rintro ⟨⟩ _ sl_ H_ hp_ hq_
      refine aN _ hp_ hq_ ?_
      rcases aj hc_9 with⟨hc_24,hc_9⟩|⟨hc_24,hc_9⟩
      ·refine ay rfl hc_24 (ai (aa (vI 1) (ah ?_)))
       obtain rfl:=ae hc_9
       obtain rfl:=ae hL_10
       obtain rfl:=ae hF
       exact aA (aK [(vI 1)] ⟨rfl,trivial⟩)
      ·refine ax rfl hc_24 (ak ?_)
       obtain ⟨v_25,h_26,hc_9⟩:=bind_some hc_9
       refine aP [(0,(vL Post.enc l_1)),(8,(vL Post.enc l_1)),(9,(vI (l_1.length:Int))),(10,(vI (k_3:Int))),(29,(vB v_25))] [(n_13,some (.cells 3 (Post.v x_5)))] ?_ ?_
       ·refine bC (aa (vI (k_3:Int)) (aa (vB (decide ((k_3:Int)>0))) ?_))
        rcases aj h_26 with⟨hc_27,h_26⟩|⟨hc_27,h_26⟩
        ·refine aB rfl hc_27 wz (aG KZ rfl 0 rfl wa (aC 4 0 (.inr (by kernel_rfl)) (λ_ _ ag=>trivial) sz9 ag9 rfl rfl (vS x_5.Player) rfl wa (aJ (vL Post.enc l_1) wa rfl (aJ (vI (k_3:Int)) wa rfl (aJ (vI (w64 ((k_3:Int)-1))) wa rfl ?_)))))
         obtain ⟨y_28,hy_29,h_26⟩:=bind_some h_26
         refine dY Pp rfl rfl hy_29 rfl wa (rQ KZ rfl [.str y_28.Player,.int .i64 y_28.X,.int .i64 y_28.Y] rfl rfl wa (bI sz9 ag9 rfl (vS y_28.Player) rfl wa (aJ (vB (sLe x_5.Player y_28.Player)) wa rfl (aa (vB (sLe x_5.Player y_28.Player)) (aa (vB (sLe x_5.Player y_28.Player)) (ah ?_))))))
         obtain rfl:=ae h_26
         exact cu
        ·refine aB rfl hc_27 wz (af (af (af (af (af (af (af (af (af (aa (vB false) (aa (vB false) (ah ?_))))))))))))
         obtain rfl:=ae h_26
         exact cu
       ·rintro ⟨⟩ _ sl_ H_ hp_ hq_
        refine aN _ hp_ hq_ ?_
        rcases aj hc_9 with⟨hc_30,hc_9⟩|⟨hc_30,hc_9⟩
        ·refine ay rfl hc_30 (ai (aa (vI 7) (ah ?_)))
         obtain rfl:=ae hc_9
         obtain rfl:=ae hL_10
         obtain rfl:=ae hF
         exact aA (aK [(vI 7)] ⟨rfl,trivial⟩)
        ·refine ax rfl hc_30 (av (au (dZ (bn hD_6 hn_7) wz rfl (aa (vI ((k_3+1:Nat):Int)) (ah ?_)))))
         obtain rfl:=ae hc_9
         exact aU (k_3+1,l_4,()) ⟨hL_10,aR hD_6⟩ (ls_ _) rfl (aH rfl)
  ·rintro s_8 ho_ sl_ H_ hp_ hq_
   subst ho_
   refine aN _ hp_ hq_ (ai (aa (vI 0) (ah ?_)))
   obtain rfl:=ae hF
   exact aA (aK [(vI 0)] ⟨rfl,trivial⟩)
theorem zY {l_1:(List Alert)} {posts_2:(List Post)} {r:Int} (hF:lX l_1 posts_2=some r) :
  FnM Tryz.prog 70 [(vL Alert.enc l_1),(vL Post.enc posts_2)] [] (vI r) []:=by
 refine FnM.of_wH ⟨Tryz.prog,13,[],[]⟩ rfl Tryz.func70 rfl rfl (lb_ rfl) (by kernel_rfl) ?_
 unfold lX at hF
 refine ai (aa (vI 0) (ah (ak (ai (aa (vL Alert.enc l_1) ?_)))))
 obtain ⟨r_3,hr_4,hF⟩:=bind_some hF
 refine aF (jQ hr_4) rfl hb25 rfl rfl rfl rfl wz (aa (vI r_3) (ah (ai (aa (vI r_3) (aa (vB (r_3 != 0)) (ah ?_))))))
 rcases aj hF with⟨hc_5,hF⟩|⟨hc_5,hF⟩
 ·refine ay rfl hc_5 (ai (aa (vI r_3) (aa (vI r_3) (ah ?_))))
  obtain rfl:=ae hF
  exact aA (aK [(vI r_3)] ⟨rfl,trivial⟩)
 ·refine ax rfl hc_5 (av (ai (aa (vL Post.enc posts_2) ?_)))
  obtain ⟨r_6,hr_7,hF⟩:=bind_some hF
  refine aF (zi hr_7) rfl hb113 rfl rfl rfl rfl wz (aa (vI r_6) (ah ?_))
  obtain rfl:=ae hF
  exact aA (aK [(vI r_6)] ⟨rfl,trivial⟩)
theorem zX {r_1:Rect} {p_2:Post} {r:Bool} (hF:rA r_1 p_2=some r) :
  FnM Tryz.prog 115 [(.d (.agg (Rect.enc r_1))),(.ref (aD 0) 0 0)] [(.cells 3 (Post.v p_2))] (vB r) [some (.cells 3 (Post.v p_2))]:=by
 refine FnM.of_wH ⟨Tryz.prog,36,[],[]⟩ rfl Tryz.func115 rfl rfl (lb_ rfl) (by kernel_rfl) ?_
 unfold rA at hF
 refine ai (gQ 0 (.inl rfl) (Rect.v r_1) rfl rfl wz (λn_3=>aa (vB false) (ah (ak ?_))))
 obtain ⟨v_4,h_5,hF⟩:=bind_some hF
 refine aP [(3,(vB v_4))] [((aD 0),some (.cells 3 (Post.v p_2))),(n_3,some (.cells 4 (Rect.v r_1)))] ?_ ?_
 ·refine au (aG zR rfl 0 rfl wz (aC 0 1 il ft sz3 ag3 rfl rfl (vI r_1.X) rfl wz (aG Mi rfl 1 rfl wz (aC 0 0 il ft sz3 ag3 rfl rfl (vI p_2.X) rfl wz (aa (vB (decide (r_1.X<=p_2.X))) ?_)))))
  rcases aj h_5 with⟨hc_6,h_5⟩|⟨hc_6,h_5⟩
  ·refine aB rfl hc_6 wz (aG Mi rfl 1 rfl wa (aC 0 0 il ft sz3 ag3 rfl rfl (vI p_2.X) rfl wa (aG zR rfl 0 rfl wa (aC 0 1 il ft sz3 ag3 rfl rfl (vI r_1.X) rfl wa (aG Ej rfl 2 rfl wa (aC 0 1 il ft sz3 ag3 rfl rfl (vI r_1.W) rfl wa (aJ (vI (w64 (r_1.X+r_1.W))) wa rfl (aJ (vB (decide (p_2.X<(w64 (r_1.X+r_1.W))))) wa rfl (aa (vB (decide (p_2.X<(w64 (r_1.X+r_1.W))))) ?_)))))))))
   rcases aj h_5 with⟨hc_7,h_5⟩|⟨hc_7,h_5⟩
   ·refine aB rfl hc_7 wz (aG xA rfl 1 rfl wa (aC 0 1 il ft sz3 ag3 rfl rfl (vI r_1.Y) rfl wa (aG Lx rfl 2 rfl wa (aC 0 0 il ft sz3 ag3 rfl rfl (vI p_2.Y) rfl wa (aJ (vB (decide (r_1.Y<=p_2.Y))) wa rfl (aa (vB (decide (r_1.Y<=p_2.Y))) ?_))))))
    rcases aj h_5 with⟨hc_8,h_5⟩|⟨hc_8,h_5⟩
    ·refine aB rfl hc_8 wz (aG Lx rfl 2 rfl wa (aC 0 0 il ft sz3 ag3 rfl rfl (vI p_2.Y) rfl wa (aG xA rfl 1 rfl wa (aC 0 1 il ft sz3 ag3 rfl rfl (vI r_1.Y) rfl wa (aG BA rfl 3 rfl wa (aC 0 1 il ft sz3 ag3 rfl rfl (vI r_1.H) rfl wa (aJ (vI (w64 (r_1.Y+r_1.H))) wa rfl (aJ (vB (decide (p_2.Y<(w64 (r_1.Y+r_1.H))))) wa rfl (aa (vB (decide (p_2.Y<(w64 (r_1.Y+r_1.H))))) (aa (vB (decide (p_2.Y<(w64 (r_1.Y+r_1.H))))) (ah ?_)))))))))))
     obtain rfl:=ae h_5
     exact cu
    ·refine aB rfl hc_8 wz (af (af (af (af (af (af (af (af (aa (vB false) (aa (vB false) (ah ?_)))))))))))
     obtain rfl:=ae h_5
     exact cu
   ·refine aB rfl hc_7 wz (af (af (af (af (af (aa (vB false) (aa (vB false) (af (af (af (af (af (af (af (af (aa (vB false) (aa (vB false) (ah ?_))))))))))))))))))
    obtain rfl:=ae h_5
    exact cu
  ·refine aB rfl hc_6 wz (af (af (af (af (af (af (af (af (aa (vB false) (aa (vB false) (af (af (af (af (af (aa (vB false) (aa (vB false) (af (af (af (af (af (af ?_)))))))))))))))))))))))
   refine af (af (aa (vB false) (aa (vB false) (ah ?_))))
   obtain rfl:=ae h_5
   exact cu
 ·rintro ⟨⟩ _ sl_ H_ hp_ hq_
  refine aN _ hp_ hq_ ?_
  obtain rfl:=ae hF
  exact aA (Cw (.inr rfl) [(vB v_4)] _ [0] [aD 0] ⟨rfl,trivial⟩ (.cons (kH rfl rfl) (.nil)) (by kernel_rfl) ⟨(by kernel_rfl),trivial⟩ (by decide) (by kernel_rfl))
theorem nA {s_1:(List Rect)} {f_2:Rect->Option Bool} {r:Int} {gid:FuncId} {caps:List V} {Sin:List Box} (hfn:∀x0 r,f_2 x0=some r->FnM Tryz.prog gid ([(.d (.agg (Rect.enc x0)))]++caps) Sin (vB r) (Sin.map some)) (hbF:aI Tryz.prog gid=true) (hcapF:caps.flatMap frz=[]/\caps.map co0=caps) (hokF:okL Sin.length caps=true) (hsF:∀b∈Sin,b.ok Sin.length=true) (hmF:∀b∈Sin,b.mut=true) (hF:gZ s_1 f_2=some r) :
  FnM Tryz.prog 142 [(vL Rect.enc s_1),(.fn gid caps)] Sin (vI r) (Sin.map some):=by
 refine FnM.of_wH ⟨Tryz.prog,19,[],[]⟩ rfl Tryz.func142 rfl rfl (lb_ rfl) (by kernel_rfl) ?_
 unfold gZ at hF
 refine ai (aa (vI 0) (ah (ak (ai (aa (vL Rect.enc s_1) (bG xL rfl wz (aa (vI 0) (ah ?_))))))))
 obtain ⟨o_11,hj_12,hF⟩:=bind_some hF
 obtain ⟨hn_7,hj_12⟩:=aX hj_12
 refine bP (λ(s_8:Unit)=>[]) (λ(s_8:Unit)=>(pY 0 Sin)) (λ(k_3:Nat)=>(λ(s_8:Unit)=>[(0,(vL Rect.enc s_1)),(1,(.fn gid caps)),(7,(vI (s_1.length:Int))),(8,(vI (k_3:Int)))])) (λk x s=>fP f_2 k x s) o_11 s_1 () hj_12 rfl (vK _) ?_ ?_
 ·rintro ⟨k_3,l_4,s_8⟩ ⟨hL_10,hD_6⟩
  dsimp only at hL_10 hD_6
  cases l_4 with
  | nil =>
   obtain rfl:=ae hL_10
   refine ai (aa (vB (decide ((k_3:Int)<(s_1.length:Int)))) (ah ?_))
   refine ak (ax rfl (drop_nil hD_6) (aW ?_))
   exact aS (s_8) rfl rfl (vK _)
  | cons x_5 l_4 =>
   obtain ⟨c_,hc_9,hL_10⟩:=bind_some hL_10
   refine ai (aa (vB (decide ((k_3:Int)<(s_1.length:Int)))) (ah ?_))
   refine ak (ay rfl (aZ hD_6) (av ?_))
   unfold fP at hc_9
   refine ak (aL (ai (aa (vI (k_3:Int)) (aa (vI (k_3:Int)) (ah (ai (aa (.fn gid caps) (aa (vL Rect.enc s_1) (aa (vI (k_3:Int)) (dY Au rfl rfl (bz hD_6) rfl wz (bI q8 Du rfl (.d (.agg (Rect.enc x_5))) rfl wz ?_)))))))))))
   obtain ⟨r_13,hr_14,hc_9⟩:=bind_some hc_9
   refine DT (hfn _ _ hr_14) rfl hbF rfl rfl hcapF hokF hsF hmF rfl wz rfl (ah ?_)
   rcases aj hc_9 with⟨hc_15,hc_9⟩|⟨hc_15,hc_9⟩
   ·refine ay rfl hc_15 (ai (aa (vI (k_3:Int)) (aa (vI (k_3:Int)) (ah ?_))))
    obtain rfl:=ae hc_9
    obtain rfl:=ae hL_10
    obtain rfl:=ae hF
    exact aA (N9 hsF (.inr rfl) [(vI (k_3:Int))] ⟨rfl,trivial⟩ rfl rfl rfl)
   ·refine ax rfl hc_15 (av (au (dZ (bn hD_6 hn_7) wz rfl (aa (vI ((k_3+1:Nat):Int)) (ah ?_)))))
    obtain rfl:=ae hc_9
    exact aU (k_3+1,l_4,()) ⟨hL_10,aR hD_6⟩ (ls_ _) rfl (vK _)
 ·rintro s_8 ho_ sl_ H_ hp_ hq_
  subst ho_
  refine aN _ hp_ hq_ (ai (aa (vI (-1)) (ah ?_)))
  obtain rfl:=ae hF
  exact aA (N9 hsF (.inr rfl) [(vI (-1))] ⟨rfl,trivial⟩ rfl rfl rfl)
theorem l5 {s_1:(List Rect)} {f_2:Rect->Option Bool} {r:Bool} {gid:FuncId} {caps:List V} {Sin:List Box} (hfn:∀x0 r,f_2 x0=some r->FnM Tryz.prog gid ([(.d (.agg (Rect.enc x0)))]++caps) Sin (vB r) (Sin.map some)) (hbF:aI Tryz.prog gid=true) (hcapF:caps.flatMap frz=[]/\caps.map co0=caps) (hokF:okL Sin.length caps=true) (hsF:∀b∈Sin,b.ok Sin.length=true) (hmF:∀b∈Sin,b.mut=true) (hF:fV s_1 f_2=some r) :
  FnM Tryz.prog 114 [(vL Rect.enc s_1),(.fn gid caps)] Sin (vB r) (Sin.map some):=by
 refine FnM.of_wH ⟨Tryz.prog,9,[],[]⟩ rfl Tryz.func114 rfl rfl (lb_ rfl) (by kernel_rfl) ?_
 unfold fV at hF
 refine ai (aa (vB false) (ah (ai (aa (vL Rect.enc s_1) (aa (.fn gid caps) ?_)))))
 obtain ⟨r_3,hr_4,hF⟩:=bind_some hF
 refine DT (nA (gid:=gid) (caps:=caps) (Sin:=Sin) hfn hbF hcapF hokF hsF hmF hr_4) rfl hb142 rfl rfl ⟨rfl,rfl⟩ (by simp [okL,okV,hokF]) hsF hmF rfl wz rfl (aa (vB (decide (r_3>=0))) (aa (vB (decide (r_3>=0))) (ah ?_)))
 obtain rfl:=ae hF
 exact aA (N9 hsF (.inr rfl) [(vB (decide (r_3>=0)))] ⟨rfl,trivial⟩ rfl rfl rfl)
theorem Cg {a_1:Alert} {p_2:Post} {r:Bool} (hF:qC a_1 p_2=some r) :
  FnM Tryz.prog 71 [(.d (.agg (Alert.enc a_1))),(.d (.agg (Post.enc p_2)))] [] (vB r) []:=by
 refine FnM.of_wH ⟨Tryz.prog,9,[],[]⟩ rfl Tryz.func71 rfl rfl (lb_ rfl) (by kernel_rfl) ?_
 unfold qC at hF
 refine ai (gQ 0 (.inl rfl) (Alert.v a_1) rfl rfl wz (λn_3=>gQ 0 (.inl rfl) (Post.v p_2) rfl rfl wz (λn_4=>aa (vB false) (ah (ai (aG sI rfl 7 rfl wz (aC 0 0 il ft Ch EC rfl rfl (vL Rect.enc a_1.Areas) rfl wz (aa (.fn 115 [(.ref n_4 0 0)]) ?_))))))))
 obtain ⟨r_5,hr_6,hF⟩:=bind_some hF
 refine gu 0 [1] il ft (l5 (gid:=115) (caps:=[.ref (aD 0) 0 0]) (Sin:=[(.cells 3 (Post.v p_2))]) (λ_ _ h_=>zX h_) hb115 ⟨rfl,rfl⟩ (by kernel_rfl) (Jb (by kernel_rfl)) (DR (by kernel_rfl)) hr_6) rfl hb114 rfl (by kernel_rfl) (by kernel_rfl) (by kernel_rfl) (by kernel_rfl) (by kernel_rfl) (by kernel_rfl) (by kernel_rfl) (by decide) (by kernel_rfl) wz (vB r_5) (by kernel_rfl) ([(n_3,some (.cells 9 (Alert.v a_1))),(n_4,some (.cells 3 (Post.v p_2)))]:Hp) (by kernel_rfl) (aa (vB r_5) (ah ?_))
 obtain rfl:=ae hF
 exact aA (aK [(vB r_5)] ⟨rfl,trivial⟩)
theorem BZ {a_1:Alert} {p_2:Post} {r:Bool×Int} (hF:nX a_1 p_2=some r) :
  FnM Tryz.prog 43 [(.d (.agg (Alert.enc a_1))),(.d (.agg (Post.enc p_2)))] [] (.tup [(vB r.1),(vI r.2)]) []:=by
 refine FnM.of_wH ⟨Tryz.prog,18,[],[]⟩ rfl Tryz.func43 rfl rfl (lb_ rfl) (by kernel_rfl) ?_
 unfold nX at hF
 refine ai (gQ 0 (.inl rfl) (Alert.v a_1) rfl rfl wz (λn_3=>gQ 0 (.inl rfl) (Post.v p_2) rfl rfl wz (λn_4=>aa (vB false) (aa (vI 0) (ah (ak (ai (aC 0 0 il ft eO jo rfl rfl (.d (.agg (Alert.enc a_1))) rfl wz (eT (([a_1]:List Alert).map Alert.enc) mo Iw rfl rfl rfl rfl rfl wz (aC 0 1 il ft sz93 ag93 rfl rfl (.d (.agg (Post.enc p_2))) rfl wz (eT (([p_2]:List Post).map Post.enc) Pp ez122 rfl rfl rfl rfl rfl wz ?_)))))))))))
 obtain ⟨r_5,hr_6,hF⟩:=bind_some hF
 refine aF (zY hr_6) rfl hb70 rfl rfl rfl rfl wz (aa (vI r_5) (ah (ai (aa (vI r_5) (aa (vB (r_5 != 0)) (ah ?_))))))
 rcases aj hF with⟨hc_7,hF⟩|⟨hc_7,hF⟩
 ·refine ay rfl hc_7 (ai (aa (vI r_5) (aa (vB false) (aa (vI r_5) (ah ?_)))))
  obtain rfl:=ae hF
  exact aA (aK [(vB false),(vI r_5)] ⟨rfl,⟨rfl,trivial⟩⟩)
 ·refine ax rfl hc_7 (av (ai (aC 0 0 il ft eO jo rfl rfl (.d (.agg (Alert.enc a_1))) rfl wz (aC 0 1 il ft sz93 ag93 rfl rfl (.d (.agg (Post.enc p_2))) rfl wz ?_))))
  obtain ⟨r_8,hr_9,hF⟩:=bind_some hF
  refine aF (Cg hr_9) rfl hb71 rfl rfl rfl rfl wz (aa (vB r_8) (aa (vI 0) (ah ?_)))
  obtain rfl:=ae hF
  exact aA (aK [(vB r_8),(vI 0)] ⟨rfl,⟨rfl,trivial⟩⟩)
theorem Gg {r:Bool} (hF:qg  = some r) :
  FnM Tryz.prog 17 [] [] (vB r) []:=by
 refine FnM.of_wH ⟨Tryz.prog,75,[],[]⟩ rfl Tryz.func17 rfl rfl (lb_ rfl) (by kernel_rfl) ?_
 unfold qg at hF
 refine ai (aa (vB false) (ah (ai (aJ (.d (.agg (Rect.enc (⟨0,0,2,2⟩:Rect)))) wz (by kernel_rfl) (aJ (.d (.agg (Rect.enc (⟨1,1,2,2⟩:Rect)))) wz (by kernel_rfl) (eT (([(⟨0,0,2,2⟩:Rect),(⟨1,1,2,2⟩:Rect)]:List Rect).map Rect.enc) Au PN rfl rfl rfl rfl rfl wz ?_))))))
 obtain ⟨r_1,hr_2,hF⟩:=bind_some hF
 refine aF (FD hr_2) rfl hb39 rfl rfl rfl rfl wz (aa (.tup [(vI r_1.1),(vI r_1.2)]) (aa (vI r_1.1) (aa (vI r_1.2) (aa (vI r_1.1) (aa (vI r_1.2) (ah (ai (aJ (.agg [(vS (⟨#[97]⟩:ByteArray)),(vS (⟨#[98]⟩:ByteArray)),(vI 0),(vI 0),(vI 0),(vI 1),(vI 127),.nil,(vI 1),(vI 2),(vI 0),.nil,(vB false)]) wz (by kernel_rfl) (aJ (.d (.agg (Window.enc (⟨0,86400000⟩:Window)))) wz (by kernel_rfl) ?_)))))))))
 obtain ⟨r_3,hr_4,hF⟩:=bind_some hF
 refine aF (Bl hr_4) rfl hb40 rfl rfl rfl rfl wz (aa (.tup [(vL Window.enc r_3.1),(vI r_3.2)]) (aa (vL Window.enc r_3.1) (aa (vI r_3.2) (aa (vL Window.enc r_3.1) (aa (vI r_3.2) (ah (ai (aJ (.d (.agg (Window.enc (⟨0,100⟩:Window)))) wz (by kernel_rfl) (aJ (.agg [(vS (⟨#[97]⟩:ByteArray)),(vS (⟨#[]⟩:ByteArray)),(vI 0),(vI 100),.nil,(vI 10),(vI 0),(vI 0)]) wz (by kernel_rfl) ?_)))))))))
 obtain ⟨r_5,hr_6,hF⟩:=bind_some hF
 refine aF (FN hr_6) rfl hb41 rfl rfl rfl rfl wz (aa (.tup [(vI r_5.1),(vI r_5.2)]) (aa (vI r_5.1) (aa (vI r_5.2) (aa (vI r_5.1) (aa (vI r_5.2) (ah (ai (aJ (.d (.agg (Beat.enc (⟨(⟨#[112]⟩:ByteArray),0,100⟩:Beat)))) wz (by kernel_rfl) (aJ (.d (.agg (Beat.enc (⟨(⟨#[112]⟩:ByteArray),1000,1300⟩:Beat)))) wz (by kernel_rfl) (eT (([(⟨(⟨#[112]⟩:ByteArray),0,100⟩:Beat),(⟨(⟨#[112]⟩:ByteArray),1000,1300⟩:Beat)]:List Beat).map Beat.enc) Nt ez89 rfl rfl rfl rfl rfl wz ?_))))))))))
 obtain ⟨r_7,hr_8,hF⟩:=bind_some hF
 refine aF (FY hr_8) rfl hb42 rfl rfl rfl rfl wz (aa (.tup [(vI r_7.1),(vI r_7.2)]) (aa (vI r_7.1) (aa (vI r_7.2) (aa (vI r_7.1) (aa (vI r_7.2) (ah (aN (H0:=([]:Hp)) ([(1,(vI r_1.1)),(2,(vI r_1.2)),(3,(vL Window.enc r_3.1)),(4,(vI r_3.2)),(5,(vI r_5.1)),(6,(vI r_5.2)),(7,(vI r_7.1)),(8,(vI r_7.2))]:SL_) (by kernel_rfl) (zZ (by kernel_rfl)) (ai (aJ (.d (.agg (Rect.enc (⟨0,0,2,2⟩:Rect)))) wz (by kernel_rfl) (eT (([(⟨0,0,2,2⟩:Rect)]:List Rect).map Rect.enc) Au PN rfl rfl rfl rfl rfl wz (aJ (.agg [(vS (⟨#[97]⟩:ByteArray)),(vS (⟨#[115]⟩:ByteArray)),(vI 1),.nil,(vI 0),(vI 5),(vI 1),(vL Rect.enc ([(⟨0,0,2,2⟩:Rect)]:List Rect)),(vS (⟨#[120]⟩:ByteArray))]) wz (by kernel_rfl) (dC 0 (.inl rfl) z32 rfl wz (λn_9=>fB 0 il ft 0 eO rfl rfl [(vS (⟨#[97]⟩:ByteArray)),(vS (⟨#[115]⟩:ByteArray)),(vI 1),.nil,(vI 0),(vI 5),(vI 1),(vL Rect.enc ([(⟨0,0,2,2⟩:Rect)]:List Rect)),(vS (⟨#[120]⟩:ByteArray))] rfl wz (ah (ai (aC 0 0 il ft eO jo rfl rfl (.agg [(vS (⟨#[97]⟩:ByteArray)),(vS (⟨#[115]⟩:ByteArray)),(vI 1),.nil,(vI 0),(vI 5),(vI 1),(vL Rect.enc ([(⟨0,0,2,2⟩:Rect)]:List Rect)),(vS (⟨#[120]⟩:ByteArray))]) rfl wz (aJ (.d (.agg (Post.enc (⟨(⟨#[112]⟩:ByteArray),1,1⟩:Post)))) wz (by kernel_rfl) ?_)))))))))))))))))
 obtain ⟨r_10,hr_11,hF⟩:=bind_some hF
 refine aF (BZ hr_11) rfl hb43 rfl rfl rfl rfl wz (aa (.tup [(vB r_10.1),(vI r_10.2)]) (aa (vB r_10.1) (aa (vI r_10.2) (aa (vB r_10.1) (aa (vI r_10.2) (ah (ak ?_)))))))
 obtain ⟨v_12,h_13,hF⟩:=bind_some hF
 refine aP [(0,(vB v_12))] [(n_9,some (.cells 9 [(vS (⟨#[97]⟩:ByteArray)),(vS (⟨#[115]⟩:ByteArray)),(vI 1),.nil,(vI 0),(vI 5),(vI 1),(vL Rect.enc ([(⟨0,0,2,2⟩:Rect)]:List Rect)),(vS (⟨#[120]⟩:ByteArray))]))] ?_ ?_
 ·refine au (aa (vI r_1.2) (aa (vI r_3.2) (aa (vI r_5.2) (aa (vI r_7.2) (aa (vI r_10.2) (eT (([r_1.2,r_3.2,r_5.2,r_7.2,r_10.2]:List Int).map eI) es66 ez66 rfl rfl rfl rfl rfl wz ?_))))))
  obtain ⟨r_14,hr_15,h_13⟩:=bind_some h_13
  refine aF (AZ hr_15) rfl hb9 rfl rfl rfl rfl wz (aa (vB (r_14==0)) ?_)
  rcases aj h_13 with⟨hc_16,h_13⟩|⟨hc_16,h_13⟩
  ·refine aB rfl hc_16 wz (aJ (vI r_1.1) wa rfl (aJ (vB (r_1.1==7)) wa rfl (aa (vB (r_1.1==7)) ?_)))
   rcases aj h_13 with⟨hc_17,h_13⟩|⟨hc_17,h_13⟩
   ·refine aB rfl hc_17 wz (aJ (vL Window.enc r_3.1) wa rfl (bG un76 rfl wa (aJ (vB ((r_3.1.length:Int)==1)) wa rfl (aa (vB ((r_3.1.length:Int)==1)) ?_))))
    rcases aj h_13 with⟨hc_18,h_13⟩|⟨hc_18,h_13⟩
    ·refine aB rfl hc_18 wz (aJ (vI r_5.1) wa rfl (aJ (vB (r_5.1==5)) wa rfl (aa (vB (r_5.1==5)) ?_)))
     rcases aj h_13 with⟨hc_19,h_13⟩|⟨hc_19,h_13⟩
     ·refine aB rfl hc_19 wz (aJ (vI r_7.1) wa rfl (aJ (vB (r_7.1==500)) wa rfl (aa (vB (r_7.1==500)) ?_)))
      rcases aj h_13 with⟨hc_20,h_13⟩|⟨hc_20,h_13⟩
      ·refine aB rfl hc_20 wz (aJ (vB r_10.1) wa rfl (aa (vB r_10.1) (aa (vB r_10.1) (ah ?_))))
       obtain rfl:=ae h_13
       exact cu
      ·refine aB rfl hc_20 wz (af (aa (vB false) (aa (vB false) (ah ?_))))
       obtain rfl:=ae h_13
       exact cu
     ·refine aB rfl hc_19 wz (af (af (aa (vB false) (aa (vB false) (af (aa (vB false) (aa (vB false) (ah ?_))))))))
      obtain rfl:=ae h_13
      exact cu
    ·refine aB rfl hc_18 wz (af (af (aa (vB false) (aa (vB false) (af (af (aa (vB false) (aa (vB false) (af (aa (vB false) (aa (vB false) (ah ?_))))))))))))
     obtain rfl:=ae h_13
     exact cu
   ·refine aB rfl hc_17 wz (af (af (af (aa (vB false) (aa (vB false) (af (af (aa (vB false) (aa (vB false) (af (af (aa (vB false) (aa (vB false) (af (aa (vB false) (aa (vB false) (ah ?_)))))))))))))))))
    obtain rfl:=ae h_13
    exact cu
  ·refine aB rfl hc_16 wz (af (af (aa (vB false) (aa (vB false) (af (af (af (aa (vB false) (aa (vB false) (af (af (aa (vB false) (aa (vB false) (af (af (aa (vB false) (aa (vB false) (af (aa (vB false) (aa (vB false) (ah ?_)))))))))))))))))))))
   obtain rfl:=ae h_13
   exact cu
 ·rintro ⟨⟩ _ sl_ H_ hp_ hq_
  refine aN _ hp_ hq_ ?_
  obtain rfl:=ae hF
  exact aA (aK [(vB v_12)] ⟨rfl,trivial⟩)
theorem xQ {l_1:(List Int)} {r:Bool} (hF:lH l_1=some r) :
  FnM Tryz.prog 3 [(vL eI l_1)] [] (vB r) []:=by
 refine FnM.of_wH ⟨Tryz.prog,171,[],[]⟩ rfl Tryz.func3 rfl rfl (lb_ rfl) (by kernel_rfl) ?_
 unfold lH at hF
 refine ai (aa (vB false) (ah (ai (aa (vL eI l_1) (aJ (.d (.agg (Stream.enc (⟨l_1,0⟩:Stream)))) wz (by kernel_rfl) (gQ 0 (.inl rfl) [(vL eI l_1),(vI 0)] rfl rfl wz (λn_2=>aa (.ref n_2 0 0) (ah (ai (aa (.ref n_2 0 0) ?_))))))))))
 obtain ⟨r_3,hr_4,hF⟩:=bind_some hF
 refine gu 0 [0] il ft (uL hr_4) rfl hb4 rfl (by kernel_rfl) (by kernel_rfl) (by kernel_rfl) (by kernel_rfl) (by kernel_rfl) (by kernel_rfl) (by kernel_rfl) (by decide) (by kernel_rfl) wz (vL Alert.enc r_3.1) (by kernel_rfl) ([(n_2,some (.cells 2 [(vL eI r_3.2.L),(vI r_3.2.f_at)]))]:Hp) (by kernel_rfl) (aa (.ref n_2 0 0) ?_)
 obtain ⟨r_6,hr_7,hF⟩:=bind_some hF
 refine gu 0 [0] il ft (fI hr_7) rfl hb5 rfl (by kernel_rfl) (by kernel_rfl) (by kernel_rfl) (by kernel_rfl) (by kernel_rfl) (by kernel_rfl) (by kernel_rfl) (by decide) (by kernel_rfl) wz (vI r_6.1) (by kernel_rfl) ([(n_2,some (.cells 2 [(vL eI r_6.2.L),(vI r_6.2.f_at)]))]:Hp) (by kernel_rfl) (dC 0 (.inl rfl) z3 rfl wz (λn_9=>aa (vL Alert.enc r_3.1) (fB 0 il ft 1 sz3 rfl rfl [(vI r_6.1)] rfl wz (ah (ai (aa .nil (aa .nil (ah (ak (ai (aa (vL Alert.enc r_3.1) (bG tq rfl wz (aa (vI 0) (ah (l6 (λn_16=>l6 (λn_17 => ?_)))))))))))))))))
 obtain ⟨o_24,hj_25,hF⟩:=bind_some hF
 obtain ⟨hn_14,hj_25⟩:=aX hj_25
 refine ic (σ:=(List Alert)×(List Alert)×(List Int)×Int) (N:=Nm×Nm) (λp=>(λ(s_15:(List Alert)×(List Alert)×(List Int)×Int) (n_20:Nm) (n_21:Nm)=>([(4,(vL Alert.enc r_3.1)),(5,(.ref n_9 0 0)),(6,(gV n_20 9 s_15.1)),(7,(gV n_21 9 s_15.2.1))]:SL_)) p.1 p.2.1 p.2.2) (λp=>(λ(s_15:(List Alert)×(List Alert)×(List Int)×Int) (n_20:Nm) (n_21:Nm)=>([(n_2,some (.cells 2 [(vL eI s_15.2.2.1),(vI s_15.2.2.2)])),(n_9,some (.cells 1 [(vI r_6.1)])),(n_20,gB 9 Alert.enc s_15.1),(n_21,gB 9 Alert.enc s_15.2.1)]:Hp)) p.1 p.2.1 p.2.2) (λ(k_10:Nat)=>(λp=>(λ(s_15:(List Alert)×(List Alert)×(List Int)×Int) (n_20:Nm) (n_21:Nm)=>([(3,(.ref n_2 0 0)),(4,(vL Alert.enc r_3.1)),(5,(.ref n_9 0 0)),(6,(gV n_20 9 s_15.1)),(7,(gV n_21 9 s_15.2.1)),(33,(vL Alert.enc r_3.1)),(34,(vI (r_3.1.length:Int))),(35,(vI (k_10:Int)))]:SL_)) p.1 p.2.1 p.2.2)) (λk x s=>iI k x s) o_24 r_3.1 ((([]:List Alert),([]:List Alert),r_6.2.L,r_6.2.f_at),n_16,n_17) hj_25 rfl (aH rfl) ?_ ?_
 ·rintro ⟨k_10,l_11,s_15,n_20,n_21⟩ ⟨hL_23,hD_13⟩
  dsimp only at hL_23 hD_13
  cases l_11 with
  | nil =>
   obtain rfl:=ae hL_23
   refine ai (aa (vB (decide ((k_10:Int)<(r_3.1.length:Int)))) (ah ?_))
   refine ak (ax rfl (drop_nil hD_13) (aW ?_))
   exact aS (s_15,n_20,n_21) rfl rfl (aH rfl)
  | cons x_12 l_11 =>
   obtain ⟨c_,hc_22,hL_23⟩:=bind_some hL_23
   refine ai (aa (vB (decide ((k_10:Int)<(r_3.1.length:Int)))) (ah ?_))
   refine ak (ay rfl (aZ hD_13) (av ?_))
   unfold iI at hc_22
   refine ak (aL (ai (dY mo rfl rfl (bz hD_13) rfl wz (bI eO jo rfl (.d (.agg (Alert.enc x_12))) rfl wz (dC 0 (.inl rfl) z32 rfl wz (λn_26=>fB 0 il ft 4 eO rfl rfl (Alert.v x_12) rfl wz (ah (ai (aa (.ref n_2 0 0) ?_)))))))))
   obtain ⟨r_27,hr_28,hc_22⟩:=bind_some hc_22
   refine gu 0 [0] il ft (jV hr_28) rfl hb6 rfl (by kernel_rfl) (by kernel_rfl) (by kernel_rfl) (by kernel_rfl) (by kernel_rfl) (by kernel_rfl) (by kernel_rfl) (by decide) (by kernel_rfl) wz (vI r_27.1) (by kernel_rfl) ([(n_2,some (.cells 2 [(vL eI r_27.2.L),(vI r_27.2.f_at)])),(n_9,some (.cells 1 [(vI r_6.1)])),(n_20,gB 9 Alert.enc s_15.1),(n_21,gB 9 Alert.enc s_15.2.1),(n_26,some (.cells 9 (Alert.v x_12)))]:Hp) (by kernel_rfl) (ah (aL (ai (aa (vB (r_27.1==0)) (aa (vB (r_27.1==0)) (ah ?_))))))
   obtain ⟨v_30,h_31,hc_22⟩:=bind_some hc_22
   refine jW (β:=Nm×Nm) (λp=>(λ(n_32:Nm) (n_33:Nm)=>([(3,(.ref n_2 0 0)),(4,(vL Alert.enc r_3.1)),(5,(.ref n_9 0 0)),(6,(gV n_32 9 v_30.1)),(7,(gV n_33 9 v_30.2)),(33,(vL Alert.enc r_3.1)),(34,(vI (r_3.1.length:Int))),(35,(vI (k_10:Int)))]:SL_)) p.1 p.2) (λp=>(λ(n_32:Nm) (n_33:Nm)=>([(n_2,some (.cells 2 [(vL eI r_27.2.L),(vI r_27.2.f_at)])),(n_9,some (.cells 1 [(vI r_6.1)])),(n_32,gB 9 Alert.enc v_30.1),(n_33,gB 9 Alert.enc v_30.2),(n_26,some (.cells 9 (Alert.v x_12)))]:Hp)) p.1 p.2) (λ_=>True) ?_ ?_
   ·rcases aj h_31 with⟨hc_34,h_31⟩|⟨hc_34,h_31⟩
    ·refine ay rfl hc_34 (au (aa (gV n_20 9 s_15.1) (aC 0 4 il ft eO jo rfl rfl (.d (.agg (Alert.enc x_12))) rfl wz (eT (([x_12]:List Alert).map Alert.enc) mo Iw rfl rfl rfl rfl rfl wz ?_))))
     obtain ⟨a_35,hz_36,h_31⟩:=bind_some h_31
     refine jB 0 il ft (i:=2) yo yo eO z32 rfl (by decide) J5 (by decide) (λ_=>rfl) rfl rfl rfl hz_36 wz (λn_37=>aa (gV n_37 9 a_35) (ah ?_))
     obtain rfl:=ae h_31
     exact aS (n_37,n_21) trivial rfl (aH rfl)
    ·refine ax rfl hc_34 (ai (aa (vB (r_27.1==1)) (aa (vB (r_27.1==1)) (ah ?_))))
     rcases aj h_31 with⟨hc_38,h_31⟩|⟨hc_38,h_31⟩
     ·refine ay rfl hc_38 (au (aa (gV n_21 9 s_15.2.1) (aC 0 4 il ft eO jo rfl rfl (.d (.agg (Alert.enc x_12))) rfl wz (eT (([x_12]:List Alert).map Alert.enc) mo Iw rfl rfl rfl rfl rfl wz ?_))))
      obtain ⟨a_39,hz_40,h_31⟩:=bind_some h_31
      refine jB 0 il ft (i:=3) yo yo eO z32 rfl (by decide) J5 (by decide) (λ_=>rfl) rfl rfl rfl hz_40 wz (λn_41=>aa (gV n_41 9 a_39) (ah ?_))
      obtain rfl:=ae h_31
      exact aS (n_20,n_41) trivial rfl (aH rfl)
     ·refine ax rfl hc_38 (bC (aa (gV n_20 9 s_15.1) (aC 1 4 (.inr (by kernel_rfl)) (λ_ _ ag=>trivial) eO jo rfl rfl (.d (.agg (Alert.enc x_12))) rfl wz (eT (([x_12]:List Alert).map Alert.enc) mo Iw rfl rfl rfl rfl rfl wz ?_))))
      obtain ⟨a_42,hz_43,h_31⟩:=bind_some h_31
      refine nI (P:=n_2≠n_20) (λ_ _ ag=>uf ag (i:=0) (j:=2) rfl rfl (by decide)) (λhk_45=>nI (P:=n_9≠n_20) (λ_ _ ag=>uf ag (i:=1) (j:=2) rfl rfl (by decide)) (λhk_47=>nI (P:=n_26≠n_20) (λ_ _ ag=>uf ag (i:=4) (j:=2) rfl rfl (by decide)) (λhk_49=>jB 3 (.inr (by kernel_rfl)) (λ_ _ ag=>⟨.inr (.inr (by kernel_rfl)),trivial⟩) (i:=2) yo yo eO z32 rfl (by decide) J5 (by decide) (λ_=>rfl) rfl rfl rfl hz_43 wz (λn_44=>nI (P:=n_2≠n_44) (λ_ _ ag=>uf ag (i:=0) (j:=2) rfl rfl (by decide)) (λhk_46=>nI (P:=n_9≠n_44) (λ_ _ ag=>uf ag (i:=1) (j:=2) rfl rfl (by decide)) (λhk_48=>nI (P:=n_26≠n_44) (λ_ _ ag=>uf ag (i:=4) (j:=2) rfl rfl (by decide)) (λhk_50=>aa (gV n_21 9 s_15.2.1) (aC 5 4 (.inr (by kernel_rfl)) (λ_ _ ag=>⟨.inl ⟨rfl,rfl⟩,⟨.inr (.inl (dis2 hk_49 hk_50)),trivial⟩⟩) eO jo rfl rfl (.d (.agg (Alert.enc x_12))) rfl wz (eT (([x_12]:List Alert).map Alert.enc) mo Iw rfl rfl rfl rfl rfl wz ?_)))))))))
      obtain ⟨a_51,hz_52,h_31⟩:=bind_some h_31
      refine nI (P:=n_2≠n_21) (λ_ _ ag=>uf ag (i:=0) (j:=3) rfl rfl (by decide)) (λhk_54=>nI (P:=n_9≠n_21) (λ_ _ ag=>uf ag (i:=1) (j:=3) rfl rfl (by decide)) (λhk_56=>nI (P:=n_26≠n_21) (λ_ _ ag=>uf ag (i:=4) (j:=3) rfl rfl (by decide)) (λhk_58=>jB 7 (.inr (by kernel_rfl)) (λ_ _ ag=>⟨.inr (.inr (by kernel_rfl)),⟨.inr (.inr (by kernel_rfl)),⟨.inr (.inr (by kernel_rfl)),trivial⟩⟩⟩) (i:=3) yo yo eO z32 rfl (by decide) J5 (by decide) (λ_=>rfl) rfl rfl rfl hz_52 wz (λn_53=>nI (P:=n_2≠n_53) (λ_ _ ag=>uf ag (i:=0) (j:=3) rfl rfl (by decide)) (λhk_55=>nI (P:=n_9≠n_53) (λ_ _ ag=>uf ag (i:=1) (j:=3) rfl rfl (by decide)) (λhk_57=>nI (P:=n_26≠n_53) (λ_ _ ag=>uf ag (i:=4) (j:=3) rfl rfl (by decide)) (λhk_59=>aa (gV n_44 9 a_42) (aa (gV n_53 9 a_51) (ah ?_)))))))))
      obtain rfl:=ae h_31
      exact aS (n_44,n_53) trivial rfl (aH rfl)
   ·rintro ⟨n_32,n_33⟩ _ sl_ H_ hp_ hq_
    refine aN _ hp_ hq_ (au (dZ (bn hD_13 hn_14) wz rfl (aa (vI ((k_10+1:Nat):Int)) (ah ?_))))
    obtain rfl:=ae hc_22
    exact aU (k_10+1,l_11,(v_30.1,v_30.2,r_27.2.L,r_27.2.f_at),n_32,n_33) ⟨hL_23,aR hD_13⟩ (ls_ _) rfl (aH rfl)
 ·rintro ⟨s_15,n_20,n_21⟩ ho_ sl_ H_ hp_ hq_
  subst ho_
  refine aN _ hp_ hq_ (ak (gK 2 rfl (dE 6 2 rfl rfl (gK 3 rfl (dE 7 3 rfl rfl (au (aa (vL Alert.enc s_15.1) (aa (vL Alert.enc s_15.2.1) ?_))))))))
  obtain ⟨r_60,hr_61,hF⟩:=bind_some hF
  refine aF (yG hr_61) rfl hb7 rfl rfl rfl rfl wz (aa (.tup [(vL Alert.enc r_60.1),(vI r_60.2)]) (aa (vL Alert.enc r_60.1) (aa (vI r_60.2) (aa (vL Alert.enc r_60.1) (aa (vI r_60.2) (ah (ai (aa (vL Alert.enc s_15.2.1) (aa (vL Alert.enc s_15.1) ?_)))))))))
  obtain ⟨r_62,hr_63,hF⟩:=bind_some hF
  refine aF (yG hr_63) rfl hb7 rfl rfl rfl rfl wz (aa (.tup [(vL Alert.enc r_62.1),(vI r_62.2)]) (aa (vL Alert.enc r_62.1) (aa (vI r_62.2) (aa (vL Alert.enc r_62.1) (aa (vI r_62.2) (ah (ai (aa (vL Alert.enc r_3.1) (aC 0 1 il ft sz3 ag3 rfl rfl (vI r_6.1) rfl wz ?_)))))))))
  obtain ⟨r_64,hr_65,hF⟩:=bind_some hF
  refine aF (Bz hr_65) rfl hb8 rfl rfl rfl rfl wz (aa (.tup [(vL eS r_64.1),(vI r_64.2)]) (aa (vL eS r_64.1) (aa (vI r_64.2) (aa (vL eS r_64.1) (aa (vI r_64.2) (ah (ak (ak ?_))))))))
  obtain ⟨v_66,h_67,hF⟩:=bind_some hF
  refine aP [(4,(vL Alert.enc r_3.1)),(5,(.ref n_9 0 0)),(14,(vL eS r_64.1)),(97,(vB v_66))] [(n_2,some (.cells 2 [(vL eI s_15.2.2.1),(vI s_15.2.2.2)])),(n_9,some (.cells 1 [(vI r_6.1)])),(n_20,gF 9 Alert.enc s_15.1),(n_21,gF 9 Alert.enc s_15.2.1)] ?_ ?_
  ·refine au (aa (vI r_60.2) (aa (vI r_62.2) (aa (vI r_64.2) (eT (([r_60.2,r_62.2,r_64.2]:List Int).map eI) es66 ez66 rfl rfl rfl rfl rfl wz ?_))))
   obtain ⟨r_68,hr_69,h_67⟩:=bind_some h_67
   refine aF (AZ hr_69) rfl hb9 rfl rfl rfl rfl wz (aa (vB (r_68 != 0)) ?_)
   rcases aj h_67 with⟨hc_70,h_67⟩|⟨hc_70,h_67⟩
   ·refine aB rfl hc_70 wz (af (af (af (af (aa (vB true) (aa (vB true) (af (af (af (af (aa (vB true) (ah ?_))))))))))))
    obtain rfl:=ae h_67
    exact cu
   ·refine aB rfl hc_70 wz (aJ (vL Alert.enc r_60.1) wa rfl (aJ (vL Alert.enc r_3.1) wa rfl ?_))
    obtain ⟨r_71,hr_72,h_67⟩:=bind_some h_67
    refine aF (dK hr_72) rfl hb10 rfl rfl rfl rfl wa (aJ (vB (!r_71)) wa rfl (aa (vB (!r_71)) ?_))
    rcases aj h_67 with⟨hc_73,h_67⟩|⟨hc_73,h_67⟩
    ·refine aB rfl hc_73 wz (af (af (af (af (aa (vB true) (ah ?_))))))
     obtain rfl:=ae h_67
     exact cu
    ·refine aB rfl hc_73 wz (aJ (vL Alert.enc r_62.1) wa rfl (aJ (vL Alert.enc r_3.1) wa rfl ?_))
     obtain ⟨r_74,hr_75,h_67⟩:=bind_some h_67
     refine aF (dK hr_75) rfl hb10 rfl rfl rfl rfl wa (aJ (vB (!r_74)) wa rfl (aa (vB (!r_74)) (ah ?_)))
     obtain rfl:=ae h_67
     exact cu
  ·rintro ⟨⟩ _ sl_ H_ hp_ hq_
   refine aN _ hp_ hq_ ?_
   rcases aj hF with⟨hc_76,hF⟩|⟨hc_76,hF⟩
   ·refine ay rfl hc_76 (ai (aa (vB false) (ah ?_)))
    obtain rfl:=ae hF
    exact aA (aK [(vB false)] ⟨rfl,trivial⟩)
   ·refine ax rfl hc_76 (av (ak (ai (aa (vL Alert.enc r_3.1) (bG tq rfl wz (aa (vI 0) (ah ?_)))))))
    obtain ⟨o_85,hj_86,hF⟩:=bind_some hF
    obtain ⟨hn_81,hj_86⟩:=aX hj_86
    refine bP (λ(s_82:Unit)=>[]) (λ(s_82:Unit)=>[(n_2,some (.cells 2 [(vL eI s_15.2.2.1),(vI s_15.2.2.2)])),(n_9,some (.cells 1 [(vI r_6.1)])),(n_20,gF 9 Alert.enc s_15.1),(n_21,gF 9 Alert.enc s_15.2.1)]) (λ(k_77:Nat)=>(λ(s_82:Unit)=>[(4,(vL Alert.enc r_3.1)),(5,(.ref n_9 0 0)),(14,(vL eS r_64.1)),(98,(vL Alert.enc r_3.1)),(99,(vI (r_3.1.length:Int))),(100,(vI (k_77:Int)))])) (λk x s=>gy r_64 r_3 r_6 k x s) o_85 r_3.1 () hj_86 rfl (aH rfl) ?_ ?_
    ·rintro ⟨k_77,l_78,s_82⟩ ⟨hL_84,hD_80⟩
     dsimp only at hL_84 hD_80
     cases l_78 with
     | nil =>
      obtain rfl:=ae hL_84
      refine ai (aa (vB (decide ((k_77:Int)<(r_3.1.length:Int)))) (ah ?_))
      refine ak (ax rfl (drop_nil hD_80) (aW ?_))
      exact aS (s_82) rfl rfl (aH rfl)
     | cons x_79 l_78 =>
      obtain ⟨c_,hc_83,hL_84⟩:=bind_some hL_84
      refine ai (aa (vB (decide ((k_77:Int)<(r_3.1.length:Int)))) (ah ?_))
      refine ak (ay rfl (aZ hD_80) (av ?_))
      unfold gy at hc_83
      refine ak (aL (ai (dY mo rfl rfl (bz hD_80) rfl wz (bI eO jo rfl (.d (.agg (Alert.enc x_79))) rfl wz (dC 0 (.inl rfl) z32 rfl wz (λn_87=>fB 0 il ft 4 eO rfl rfl (Alert.v x_79) rfl wz (ah (ai (aa (vL eS r_64.1) (aG jA rfl 0 rfl wz (aC 0 4 il ft sz9 ag9 rfl rfl (vS x_79.Id) rfl wz ?_)))))))))))
      obtain ⟨r_88,hr_89,hc_83⟩:=bind_some hc_83
      refine aF (ik hr_89) rfl hb12 rfl rfl rfl rfl wz (aa (vB r_88) (ah (ai (aa (vL Alert.enc r_3.1) (aa (.fn 14 [(.ref n_87 0 0),(.ref n_9 0 0)]) ?_)))))
      obtain ⟨r_90,hr_91,hc_83⟩:=bind_some hc_83
      refine gu 0 [4,1] il ft (lI (gid:=14) (caps:=[.ref (aD 0) 0 0,.ref (aD 1) 0 0]) (Sin:=[(.cells 9 (Alert.v x_79)),(.cells 1 [(vI r_6.1)])]) (λ_ _ h_=>vw h_) hb14 ⟨rfl,rfl⟩ (by kernel_rfl) (Jb (by kernel_rfl)) (DR (by kernel_rfl)) hr_91) rfl hb13 rfl (by kernel_rfl) (by kernel_rfl) (by kernel_rfl) (by kernel_rfl) (by kernel_rfl) (by kernel_rfl) (by kernel_rfl) (by decide) (by kernel_rfl) wz (vB r_90) (by kernel_rfl) ([(n_2,some (.cells 2 [(vL eI s_15.2.2.1),(vI s_15.2.2.2)])),(n_9,some (.cells 1 [(vI r_6.1)])),(n_20,gF 9 Alert.enc s_15.1),(n_21,gF 9 Alert.enc s_15.2.1),(n_87,some (.cells 9 (Alert.v x_79)))]:Hp) (by kernel_rfl) (aa (vB r_90) (ah (ak (ak ?_))))
      obtain ⟨v_93,h_94,hc_83⟩:=bind_some hc_83
      refine aP [(4,(vL Alert.enc r_3.1)),(5,(.ref n_9 0 0)),(14,(vL eS r_64.1)),(17,(.ref n_87 0 0)),(98,(vL Alert.enc r_3.1)),(99,(vI (r_3.1.length:Int))),(100,(vI (k_77:Int))),(131,(vB v_93))] [(n_2,some (.cells 2 [(vL eI s_15.2.2.1),(vI s_15.2.2.2)])),(n_9,some (.cells 1 [(vI r_6.1)])),(n_20,gF 9 Alert.enc s_15.1),(n_21,gF 9 Alert.enc s_15.2.1),(n_87,some (.cells 9 (Alert.v x_79)))] ?_ ?_
      ·refine au (aa (vB r_88) (aG uQ rfl 2 rfl wz (aC 0 4 il ft sz3 ag3 rfl rfl (vI x_79.Kind) rfl wz (aa (vB (x_79.Kind != 3)) ?_))))
       rcases aj h_94 with⟨hc_95,h_94⟩|⟨hc_95,h_94⟩
       ·refine aB rfl hc_95 wz (aG kz rfl 4 rfl wa (aC 0 4 il ft sz3 ag3 rfl rfl (vI x_79.At) rfl wa (aC 0 1 il ft sz3 ag3 rfl rfl (vI r_6.1) rfl wa (aJ (vB (decide (x_79.At<=r_6.1))) wa rfl (aa (vB (decide (x_79.At<=r_6.1))) ?_)))))
        rcases aj h_94 with⟨hc_96,h_94⟩|⟨hc_96,h_94⟩
        ·refine aB rfl hc_96 wz (aC 0 1 il ft sz3 ag3 rfl rfl (vI r_6.1) rfl wa (aG Ah rfl 5 rfl wa (aC 0 4 il ft sz3 ag3 rfl rfl (vI x_79.Until) rfl wa (aJ (vB (decide (r_6.1<x_79.Until))) wa rfl (aa (vB (decide (r_6.1<x_79.Until))) ?_)))))
         rcases aj h_94 with⟨hc_97,h_94⟩|⟨hc_97,h_94⟩
         ·refine aB rfl hc_97 wz (aJ (vB r_90) wa rfl (aJ (vB (!r_90)) wa rfl (aa (vB (!r_90)) (BH un4 rfl rfl wz (ah ?_)))))
          obtain rfl:=ae h_94
          exact cu
         ·refine aB rfl hc_97 wz (af (af (aa (vB false) (BH un4 rfl rfl wz (ah ?_)))))
          obtain rfl:=ae h_94
          exact cu
        ·refine aB rfl hc_96 wz (af (af (af (af (aa (vB false) (aa (vB false) (af (af (aa (vB false) (BH un4 rfl rfl wz (ah ?_)))))))))))
         obtain rfl:=ae h_94
         exact cu
       ·refine aB rfl hc_95 wz (af (af (af (af (aa (vB false) (aa (vB false) (af (af (af (af (aa (vB false) (aa (vB false) (af (af (aa (vB false) (BH un4 rfl rfl wz (ah ?_)))))))))))))))))
        obtain rfl:=ae h_94
        exact cu
      ·rintro ⟨⟩ _ sl_ H_ hp_ hq_
       refine aN _ hp_ hq_ ?_
       rcases aj hc_83 with⟨hc_98,hc_83⟩|⟨hc_98,hc_83⟩
       ·refine ay rfl hc_98 (ai (aa (vB false) (ah ?_)))
        obtain rfl:=ae hc_83
        obtain rfl:=ae hL_84
        obtain rfl:=ae hF
        exact aA (aK [(vB false)] ⟨rfl,trivial⟩)
       ·refine ax rfl hc_98 (av (ai (aa (vL Alert.enc r_3.1) (aG jA rfl 0 rfl wz (aC 0 4 il ft sz9 ag9 rfl rfl (vS x_79.Id) rfl wz ?_)))))
        obtain ⟨r_99,hr_100,hc_83⟩:=bind_some hc_83
        refine aF (xH hr_100) rfl hb15 rfl rfl rfl rfl wz (aa (.tup [(vL eS r_99.1),(vI r_99.2)]) (aa (vL eS r_99.1) (aa (vI r_99.2) (aa (vL eS r_99.1) (aa (vI r_99.2) (ah (ak (ak ?_))))))))
        obtain ⟨v_101,h_102,hc_83⟩:=bind_some hc_83
        refine aP [(4,(vL Alert.enc r_3.1)),(5,(.ref n_9 0 0)),(14,(vL eS r_64.1)),(20,(vL eS r_99.1)),(98,(vL Alert.enc r_3.1)),(99,(vI (r_3.1.length:Int))),(100,(vI (k_77:Int))),(147,(vB v_101))] [(n_2,some (.cells 2 [(vL eI s_15.2.2.1),(vI s_15.2.2.2)])),(n_9,some (.cells 1 [(vI r_6.1)])),(n_20,gF 9 Alert.enc s_15.1),(n_21,gF 9 Alert.enc s_15.2.1),(n_87,some (.cells 9 (Alert.v x_79)))] ?_ ?_
        ·refine au (aa (vI r_99.2) (aa (vB (r_99.2 != 0)) ?_))
         rcases aj h_102 with⟨hc_103,h_102⟩|⟨hc_103,h_102⟩
         ·refine aB rfl hc_103 wz (af (af (af (af (af (aa (vB true) (ah ?_)))))))
          obtain rfl:=ae h_102
          exact cu
         ·refine aB rfl hc_103 wz (aJ (vL eS r_99.1) wa rfl (aG jA rfl 0 rfl wa (aC 0 4 il ft sz9 ag9 rfl rfl (vS x_79.Id) rfl wa ?_)))
          obtain ⟨r_104,hr_105,h_102⟩:=bind_some h_102
          refine aF (ik hr_105) rfl hb12 rfl rfl rfl rfl wa (aJ (vB (!r_104)) wa rfl (aa (vB (!r_104)) (ah ?_)))
          obtain rfl:=ae h_102
          exact cu
        ·rintro ⟨⟩ _ sl_ H_ hp_ hq_
         refine aN _ hp_ hq_ ?_
         rcases aj hc_83 with⟨hc_106,hc_83⟩|⟨hc_106,hc_83⟩
         ·refine ay rfl hc_106 (ai (aa (vB false) (ah ?_)))
          obtain rfl:=ae hc_83
          obtain rfl:=ae hL_84
          obtain rfl:=ae hF
          exact aA (aK [(vB false)] ⟨rfl,trivial⟩)
         ·refine ax rfl hc_106 (av (ai (aa (vL eS r_99.1) (bG uT rfl wz (aa (vI 0) (ah ?_))))))
          obtain ⟨o_115,hj_116,hc_83⟩:=bind_some hc_83
          obtain ⟨hn_111,hj_116⟩:=aX hj_116
          refine bP (λ(s_112:Unit)=>[(4,(vL Alert.enc r_3.1)),(5,(.ref n_9 0 0)),(14,(vL eS r_64.1)),(98,(vL Alert.enc r_3.1)),(99,(vI (r_3.1.length:Int))),(100,(vI (k_77:Int)))]) (λ(s_112:Unit)=>[(n_2,some (.cells 2 [(vL eI s_15.2.2.1),(vI s_15.2.2.2)])),(n_9,some (.cells 1 [(vI r_6.1)])),(n_20,gF 9 Alert.enc s_15.1),(n_21,gF 9 Alert.enc s_15.2.1),(n_87,some (.cells 9 (Alert.v x_79)))]) (λ(k_107:Nat)=>(λ(s_112:Unit)=>[(4,(vL Alert.enc r_3.1)),(5,(.ref n_9 0 0)),(14,(vL eS r_64.1)),(20,(vL eS r_99.1)),(98,(vL Alert.enc r_3.1)),(99,(vI (r_3.1.length:Int))),(100,(vI (k_77:Int))),(148,(vL eS r_99.1)),(149,(vI (r_99.1.length:Int))),(150,(vI (k_107:Int)))])) (λk x s=>gD r_3 r_99 k x s) o_115 r_99.1 () hj_116 rfl (aH rfl) ?_ ?_
          ·rintro ⟨k_107,l_108,s_112⟩ ⟨hL_114,hD_110⟩
           dsimp only at hL_114 hD_110
           cases l_108 with
           | nil =>
            obtain rfl:=ae hL_114
            refine ai (aa (vB (decide ((k_107:Int)<(r_99.1.length:Int)))) (ah ?_))
            refine ak (ax rfl (drop_nil hD_110) (aW ?_))
            exact aS (s_112) rfl rfl (aH rfl)
           | cons x_109 l_108 =>
            obtain ⟨c_,hc_113,hL_114⟩:=bind_some hL_114
            refine ai (aa (vB (decide ((k_107:Int)<(r_99.1.length:Int)))) (ah ?_))
            refine ak (ay rfl (aZ hD_110) (av ?_))
            unfold gD at hc_113
            refine ak (aL (ai (dY nM rfl rfl (bz hD_110) rfl wz (bI sz9 ag9 rfl (vS x_109) rfl wz (aa (vS x_109) (ah (ai (aa (vL Alert.enc r_3.1) (aa (vS x_109) ?_)))))))))
            obtain ⟨r_117,hr_118,hc_113⟩:=bind_some hc_113
            refine aF (xH hr_118) rfl hb15 rfl rfl rfl rfl wz (aa (.tup [(vL eS r_117.1),(vI r_117.2)]) (aa (vL eS r_117.1) (aa (vI r_117.2) (aa (vL eS r_117.1) (aa (vI r_117.2) (ah (ak ?_)))))))
            obtain ⟨v_119,h_120,hc_113⟩:=bind_some hc_113
            refine aP [(4,(vL Alert.enc r_3.1)),(5,(.ref n_9 0 0)),(14,(vL eS r_64.1)),(20,(vL eS r_99.1)),(98,(vL Alert.enc r_3.1)),(99,(vI (r_3.1.length:Int))),(100,(vI (k_77:Int))),(148,(vL eS r_99.1)),(149,(vI (r_99.1.length:Int))),(150,(vI (k_107:Int))),(167,(vB v_119))] [(n_2,some (.cells 2 [(vL eI s_15.2.2.1),(vI s_15.2.2.2)])),(n_9,some (.cells 1 [(vI r_6.1)])),(n_20,gF 9 Alert.enc s_15.1),(n_21,gF 9 Alert.enc s_15.2.1),(n_87,some (.cells 9 (Alert.v x_79)))] ?_ ?_
            ·refine au (aa (vI r_117.2) (aa (vB (r_117.2 != 0)) ?_))
             rcases aj h_120 with⟨hc_121,h_120⟩|⟨hc_121,h_120⟩
             ·refine aB rfl hc_121 wz (af (af (af (af (aa (vB true) (ah ?_))))))
              obtain rfl:=ae h_120
              exact cu
             ·refine aB rfl hc_121 wz (aJ (vL eS r_117.1) wa rfl (aJ (vL eS r_99.1) wa rfl ?_))
              obtain ⟨r_122,hr_123,h_120⟩:=bind_some h_120
              refine aF (lC hr_123) rfl hb16 rfl rfl rfl rfl wa (aJ (vB (!r_122)) wa rfl (aa (vB (!r_122)) (ah ?_)))
              obtain rfl:=ae h_120
              exact cu
            ·rintro ⟨⟩ _ sl_ H_ hp_ hq_
             refine aN _ hp_ hq_ ?_
             rcases aj hc_113 with⟨hc_124,hc_113⟩|⟨hc_124,hc_113⟩
             ·refine ay rfl hc_124 (ai (aa (vB false) (ah ?_)))
              obtain rfl:=ae hc_113
              obtain rfl:=ae hL_114
              obtain rfl:=ae hc_83
              obtain rfl:=ae hL_84
              obtain rfl:=ae hF
              exact aA (aK [(vB false)] ⟨rfl,trivial⟩)
             ·refine ax rfl hc_124 (av (au (dZ (bn hD_110 hn_111) wz rfl (aa (vI ((k_107+1:Nat):Int)) (ah ?_)))))
              obtain rfl:=ae hc_113
              exact aU (k_107+1,l_108,()) ⟨hL_114,aR hD_110⟩ (ls_ _) rfl (aH rfl)
          ·rintro s_112 ho_ sl_ H_ hp_ hq_
           subst ho_
           refine aN _ hp_ hq_ (au (dZ (bn hD_80 hn_81) wz rfl (aa (vI ((k_77+1:Nat):Int)) (ah ?_))))
           obtain rfl:=ae hc_83
           exact aU (k_77+1,l_78,()) ⟨hL_84,aR hD_80⟩ (ls_ _) rfl (aH rfl)
    ·rintro s_82 ho_ sl_ H_ hp_ hq_
     subst ho_
     refine aN _ hp_ hq_ (ai ?_)
     obtain ⟨r_125,hr_126,hF⟩:=bind_some hF
     refine aF (Gg hr_126) rfl hb17 rfl rfl rfl rfl wz (aa (vB r_125) (ah ?_))
     obtain rfl:=ae hF
     exact aA (aK [(vB r_125)] ⟨rfl,trivial⟩)
end Go.Proofs.YtkjlhdminmpmkabGreatDoor.Law

