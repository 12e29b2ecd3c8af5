/-
 The machine computes these plain functions (written by a program of ours).
-/
import Derived.Test.YtdpginbnipklcaaGreatDoorFacts
import Derived.Test.YtdpginbnipklcaaGreatDoorDefs
import Derived.Test.YtdpginbnipklcaaGreatDoorPf6
open Go Go.Eng Go.Proofs
namespace Go.Proofs.YtdpginbnipklcaaGreatDoor.Law
set_option maxRecDepth 100000
set_option linter.unusedVariables false
set_option maxHeartbeats 1000000
theorem yh {l_1:(List Beat_)} {n_2:Int} {r:Int×Int} (hF:nG l_1 n_2=some r) :
  FnM Tryz.prog 67 [(vL Beat_.enc l_1),(vI n_2)] [] (.tup [(vI r.1),(vI r.2)]) []:=by
 refine FnM.of_wH ⟨Tryz.prog,108,[],[]⟩ rfl Tryz.func67 rfl rfl (lb_ rfl) (by kernel_rfl) ?_
 unfold nG at hF
 refine aj (aa (vI 0) (aa (vI 0) (af (au (aj (aa (vL Beat_.enc l_1) (iT un85 rfl wz (aa (vB ((l_1.length:Int)==0)) (af ?_)))))))))
 rcases ah hF with⟨hc_3,hF⟩|⟨hc_3,hF⟩
 ·refine aB rfl hc_3 (aj (aa (vI 0) (aa (vI 8) (af ?_))))
  obtain rfl:=ae hF
  exact aN (bz [(vI 0),(vI 8)] ⟨rfl,⟨rfl,trivial⟩⟩)
 ·refine aA rfl hc_3 (ay (aj (aa (vI 0) (af (au ?_)))))
  obtain ⟨o_12,hj_13,hF⟩:=bind_some hF
  obtain ⟨nq_51,hj_13⟩:=aP hj_13
  refine aU (λ(s_9:Int)=>[(0,(vL Beat_.enc l_1)),(1,(vI n_2)),(6,(vI s_9))]) (λ(s_9:Int)=>[]) (λ(k_4:Nat)=>(λ(s_9:Int)=>[(0,(vL Beat_.enc l_1)),(1,(vI n_2)),(6,(vI s_9))])) (λs=>jc l_1 n_2 s) o_12 nq_51 0 hj_13 rfl (aC rfl) ?_ ?_
  ·rintro ⟨k_4,s_9⟩ hL_11
   dsimp only at hL_11
   cases k_4 with
   | zero=>cases hL_11
   | succ k_4 =>
    obtain ⟨c_,hc_10,hL_11⟩:=bind_some hL_11
    unfold jc at hc_10
    refine au (au ?_)
    obtain ⟨v_14,h_15,hc_10⟩:=bind_some hc_10
    refine aH [(0,(vL Beat_.enc l_1)),(1,(vI n_2)),(6,(vI s_9)),(25,(vB v_14))] [] ?_ ?_
    ·refine av (aa (vI s_9) (aa (vL Beat_.enc l_1) (iT un85 rfl wz (aa (vB (decide (s_9<(l_1.length:Int)))) ?_))))
     rcases ah h_15 with⟨hc_16,h_15⟩|⟨hc_16,h_15⟩
     ·refine aD rfl hc_16 wz (aL (vL Beat_.enc l_1) wa rfl (aL (vI s_9) wa rfl ?_))
      obtain ⟨y_17,hy_18,h_15⟩:=bind_some h_15
      refine jQ CJ rfl rfl hy_18 rfl wa (oD qz rfl [.int .i64 y_17.f_from,.int .i64 y_17.f_to] rfl rfl wa (fO sz3 ag3 rfl (vI y_17.f_from) rfl wa (aL (vI n_2) wa rfl (aL (vB (decide (y_17.f_from<=n_2))) wa rfl (aa (vB (decide (y_17.f_from<=n_2))) (af ?_))))))
      obtain rfl:=ae h_15
      exact cu
     ·refine aD rfl hc_16 wz (ai (ai (ai (ai (ai (ai (ai (aa (vB false) (af ?_)))))))))
      obtain rfl:=ae h_15
      exact cu
    ·rintro ⟨⟩ _ sl_ H_ hp_ hq_
     refine aJ _ hp_ hq_ ?_
     rcases ah hc_10 with⟨hc_19,hc_10⟩|⟨hc_19,hc_10⟩
     ·refine aB rfl hc_19 (ay (aI (av (aa (vI s_9) (aa (vI (w64 (s_9+1))) (aa (vI (w64 (s_9+1))) (af ?_)))))))
      obtain rfl:=ae hc_10
      exact aK (k_4,(w64 (s_9+1))) hL_11 (ls_ _) rfl (aC rfl)
     ·refine aA rfl hc_19 (aV ?_)
      obtain rfl:=ae hc_10
      obtain rfl:=ae hL_11
      exact aX (s_9) rfl rfl (aC rfl)
  ·rintro s_9 ho_ sl_ H_ hp_ hq_
   subst ho_
   refine aJ _ hp_ hq_ (aj (aa (vI 0) (af (au (aI (aj (aa (vI s_9) (aa (vB (s_9==0)) (aa (vB (s_9==0)) (af ?_))))))))))
   rcases ah hF with⟨hc_20,hF⟩|⟨hc_20,hF⟩
   ·refine aB rfl hc_20 (aQ (aa (vL Beat_.enc l_1) ?_))
    obtain ⟨y_21,hy_22,hF⟩:=bind_some hF
    refine jQ CJ rfl rfl hy_22 rfl wz (oD rA rfl [.int .i64 y_21.f_to] rfl rfl wz (fO sz3 ag3 rfl (vI y_21.f_to) rfl wz (aa (vL Beat_.enc l_1) ?_)))
    obtain ⟨y_23,hy_24,hF⟩:=bind_some hF
    refine jQ CJ rfl rfl hy_24 rfl wz (oD qz rfl [.int .i64 y_23.f_from,.int .i64 y_23.f_to] rfl rfl wz (fO sz3 ag3 rfl (vI y_23.f_from) rfl wz (aa (vI n_2) (aa (vI (w64 (y_23.f_from-n_2))) (aa (vI (w64 (y_21.f_to-(w64 (y_23.f_from-n_2))))) (aa (vI (w64 (y_21.f_to-(w64 (y_23.f_from-n_2))))) (af (au (aj (aa (vI (w64 (y_21.f_to-(w64 (y_23.f_from-n_2))))) ?_))))))))))
    obtain ⟨r_25,hr_26,hF⟩:=bind_some hF
    refine aG (lF hr_26) rfl Ij rfl rfl rfl rfl wz (aa (vB (!r_25)) (af ?_))
    rcases ah hF with⟨hc_27,hF⟩|⟨hc_27,hF⟩
    ·refine aB rfl hc_27 (aj (aa (vI 0) (aa (vI 11) (af ?_))))
     obtain rfl:=ae hF
     exact aN (bz [(vI 0),(vI 11)] ⟨rfl,⟨rfl,trivial⟩⟩)
    ·refine aA rfl hc_27 (ay (aj (aa (vI (w64 (y_21.f_to-(w64 (y_23.f_from-n_2))))) (aa (vI (w64 (y_21.f_to-(w64 (y_23.f_from-n_2))))) (aa (vI 0) (af ?_))))))
     obtain rfl:=ae hF
     exact aN (bz [(vI (w64 (y_21.f_to-(w64 (y_23.f_from-n_2))))),(vI 0)] ⟨rfl,⟨rfl,trivial⟩⟩)
   ·refine aA rfl hc_20 (aj (aa (vI s_9) (aa (vL Beat_.enc l_1) (iT un85 rfl wz (aa (vB (s_9==(l_1.length:Int))) (aa (vB (s_9==(l_1.length:Int))) (af ?_)))))))
    rcases ah hF with⟨hc_28,hF⟩|⟨hc_28,hF⟩
    ·refine aB rfl hc_28 (aQ (aa (vL Beat_.enc l_1) (aa (vI s_9) (aa (vI (w64 (s_9-1))) ?_))))
     obtain ⟨y_29,hy_30,hF⟩:=bind_some hF
     refine jQ CJ rfl rfl hy_30 rfl wz (oD rA rfl [.int .i64 y_29.f_to] rfl rfl wz (fO sz3 ag3 rfl (vI y_29.f_to) rfl wz (aa (vI n_2) (aa (vI (w64 (y_29.f_to+n_2))) (aa (vL Beat_.enc l_1) (aa (vI s_9) (aa (vI (w64 (s_9-1))) ?_)))))))
     obtain ⟨y_31,hy_32,hF⟩:=bind_some hF
     refine jQ CJ rfl rfl hy_32 rfl wz (oD qz rfl [.int .i64 y_31.f_from,.int .i64 y_31.f_to] rfl rfl wz (fO sz3 ag3 rfl (vI y_31.f_from) rfl wz (aa (vI (w64 ((w64 (y_29.f_to+n_2))-y_31.f_from))) (aa (vI (w64 ((w64 (y_29.f_to+n_2))-y_31.f_from))) (af (au (aj (aa (vI (w64 ((w64 (y_29.f_to+n_2))-y_31.f_from))) ?_))))))))
     obtain ⟨r_33,hr_34,hF⟩:=bind_some hF
     refine aG (lF hr_34) rfl Ij rfl rfl rfl rfl wz (aa (vB (!r_33)) (af ?_))
     rcases ah hF with⟨hc_35,hF⟩|⟨hc_35,hF⟩
     ·refine aB rfl hc_35 (aj (aa (vI 0) (aa (vI 11) (af (aJ (H0:=([]:Hp)) ([(4,(vI 0)),(5,(vI 11))]:SL_) (by kernel_rfl) (zb (by kernel_rfl)) ?_)))))
      obtain rfl:=ae hF
      exact aN (bz [(vI 0),(vI 11)] ⟨rfl,⟨rfl,trivial⟩⟩)
     ·refine aA rfl hc_35 (ay (aj (aa (vI (w64 ((w64 (y_29.f_to+n_2))-y_31.f_from))) (aa (vI (w64 ((w64 (y_29.f_to+n_2))-y_31.f_from))) (aa (vI 0) (af (aJ (H0:=([]:Hp)) ([(4,(vI (w64 ((w64 (y_29.f_to+n_2))-y_31.f_from)))),(5,(vI 0))]:SL_) (by kernel_rfl) (zb (by kernel_rfl)) ?_)))))))
      obtain rfl:=ae hF
      exact aN (bz [(vI (w64 ((w64 (y_29.f_to+n_2))-y_31.f_from))),(vI 0)] ⟨rfl,⟨rfl,trivial⟩⟩)
    ·refine aA rfl hc_28 (au (aQ (aa (vL Beat_.enc l_1) (aa (vI s_9) (aa (vI (w64 (s_9-1))) ?_)))))
     obtain ⟨y_36,hy_37,hF⟩:=bind_some hF
     refine jQ CJ rfl rfl hy_37 rfl wz (fO Bb ag110 rfl (.d (.agg (Beat_.enc y_36))) rfl wz (aa (vL Beat_.enc l_1) (aa (vI s_9) ?_)))
     obtain ⟨y_38,hy_39,hF⟩:=bind_some hF
     refine jQ CJ rfl rfl hy_39 rfl wz (fO Bb ag110 rfl (.d (.agg (Beat_.enc y_38))) rfl wz (nk 9 (.inr (by kernel_rfl)) z110 rfl wz (λn_40=>nk 10 (.inr (by kernel_rfl)) z110 rfl wz (λn_41=>qY 11 (.inr (by kernel_rfl)) (λ_ _ ag=>⟨.inr (.inr (by kernel_rfl)),⟨.inr (.inr (by kernel_rfl)),trivial⟩⟩) 0 Bb rfl rfl [(vI y_36.f_from),(vI y_36.f_to)] rfl wz (qY 12 (.inr (by kernel_rfl)) (λ_ _ ag=>⟨.inr (.inr (by kernel_rfl)),⟨.inr (.inr (by kernel_rfl)),⟨.inr (.inr (by kernel_rfl)),trivial⟩⟩⟩) 1 Bb rfl rfl [(vI y_38.f_from),(vI y_38.f_to)] rfl wz (af (au (au ?_))))))))
     obtain ⟨v_42,h_43,hF⟩:=bind_some hF
     refine aH [(1,(vI n_2)),(8,(.ref n_40 0 0)),(9,(.ref n_41 0 0)),(50,(vB v_42))] [(n_40,some (.cells 2 [(vI y_36.f_from),(vI y_36.f_to)])),(n_41,some (.cells 2 [(vI y_38.f_from),(vI y_38.f_to)]))] ?_ ?_
     ·refine av (bD qz rfl 0 rfl wz (bE 0 1 il ft sz3 ag3 rfl rfl (vI y_38.f_from) rfl wz (bD qz rfl 0 rfl wz (bE 0 0 il ft sz3 ag3 rfl rfl (vI y_36.f_from) rfl wz (aa (vI (w64 (y_38.f_from-y_36.f_from))) (aa (vB (decide ((w64 (y_38.f_from-y_36.f_from))>2592000000))) ?_))))))
      rcases ah h_43 with⟨hc_44,h_43⟩|⟨hc_44,h_43⟩
      ·refine aD rfl hc_44 wz (ai (ai (ai (ai (ai (ai (aa (vB true) (af ?_))))))))
       obtain rfl:=ae h_43
       exact cu
      ·refine aD rfl hc_44 wz (bD rA rfl 1 rfl wa (bE 0 1 il ft sz3 ag3 rfl rfl (vI y_38.f_to) rfl wa (bD rA rfl 1 rfl wa (bE 0 0 il ft sz3 ag3 rfl rfl (vI y_36.f_to) rfl wa (aL (vI (w64 (y_38.f_to-y_36.f_to))) wa rfl (aL (vB (decide ((w64 (y_38.f_to-y_36.f_to))>2592000000))) wa rfl (aa (vB (decide ((w64 (y_38.f_to-y_36.f_to))>2592000000))) (af ?_))))))))
       obtain rfl:=ae h_43
       exact cu
     ·rintro ⟨⟩ _ sl_ H_ hp_ hq_
      refine aJ _ hp_ hq_ ?_
      rcases ah hF with⟨hc_45,hF⟩|⟨hc_45,hF⟩
      ·refine aB rfl hc_45 (aj (aa (vI 0) (aa (vI 2) (af ?_))))
       obtain rfl:=ae hF
       exact aN (bz [(vI 0),(vI 2)] ⟨rfl,⟨rfl,trivial⟩⟩)
      ·refine aA rfl hc_45 (ay (aQ (bD rA rfl 1 rfl wz (bE 1 0 (.inr (by kernel_rfl)) (λ_ _ ag=>trivial) sz3 ag3 rfl rfl (vI y_36.f_to) rfl wz (aa (vI n_2) (bD qz rfl 0 rfl wz (bE 4 0 (.inr (by kernel_rfl)) (λ_ _ ag=>⟨.inl ⟨rfl,rfl⟩,trivial⟩) sz3 ag3 rfl rfl (vI y_36.f_from) rfl wz (aa (vI (w64 (n_2-y_36.f_from))) (bD rA rfl 1 rfl wz (bE 7 1 (.inr (by kernel_rfl)) (λ_ _ ag=>⟨.inl ⟨rfl,rfl⟩,⟨.inl ⟨rfl,rfl⟩,trivial⟩⟩) sz3 ag3 rfl rfl (vI y_38.f_to) rfl wz (bD rA rfl 1 rfl wz (bE 9 0 (.inr (by kernel_rfl)) (λ_ _ ag=>⟨.inl ⟨rfl,rfl⟩,⟨.inl ⟨rfl,rfl⟩,⟨.inl ⟨rfl,rfl⟩,trivial⟩⟩⟩) sz3 ag3 rfl rfl (vI y_36.f_to) rfl wz (aa (vI (w64 (y_38.f_to-y_36.f_to))) (aa (vI (w64 ((w64 (n_2-y_36.f_from))*(w64 (y_38.f_to-y_36.f_to))))) (bD qz rfl 0 rfl wz (bE 13 1 (.inr (by kernel_rfl)) (λ_ _ ag=>⟨.inl ⟨rfl,rfl⟩,⟨.inl ⟨rfl,rfl⟩,⟨.inl ⟨rfl,rfl⟩,⟨.inl ⟨rfl,rfl⟩,trivial⟩⟩⟩⟩) sz3 ag3 rfl rfl (vI y_38.f_from) rfl wz (bD qz rfl 0 rfl wz (bE 15 0 (.inr (by kernel_rfl)) (λ_ _ ag=>⟨.inl ⟨rfl,rfl⟩,⟨.inl ⟨rfl,rfl⟩,⟨.inl ⟨rfl,rfl⟩,⟨.inl ⟨rfl,rfl⟩,⟨.inl ⟨rfl,rfl⟩,trivial⟩⟩⟩⟩⟩) sz3 ag3 rfl rfl (vI y_36.f_from) rfl wz (aa (vI (w64 (y_38.f_from-y_36.f_from))) ?_)))))))))))))))))))
       obtain ⟨q_46,hz_47,hF⟩:=bind_some hF
       refine IW rfl rfl hz_47 wz (aa (vI (w64 (y_36.f_to+q_46))) (aa (vI (w64 (y_36.f_to+q_46))) (af (au (aj (aa (vI (w64 (y_36.f_to+q_46))) ?_))))))
       obtain ⟨r_48,hr_49,hF⟩:=bind_some hF
       refine aG (lF hr_49) rfl Ij rfl rfl rfl rfl wz (aa (vB (!r_48)) (af ?_))
       rcases ah hF with⟨hc_50,hF⟩|⟨hc_50,hF⟩
       ·refine aB rfl hc_50 (aj (aa (vI 0) (aa (vI 11) (af ?_))))
        obtain rfl:=ae hF
        exact aN (bz [(vI 0),(vI 11)] ⟨rfl,⟨rfl,trivial⟩⟩)
       ·refine aA rfl hc_50 (ay (aj (aa (vI (w64 (y_36.f_to+q_46))) (aa (vI (w64 (y_36.f_to+q_46))) (aa (vI 0) (af ?_))))))
        obtain rfl:=ae hF
        exact aN (bz [(vI (w64 (y_36.f_to+q_46))),(vI 0)] ⟨rfl,⟨rfl,trivial⟩⟩)
theorem zU {l_1:(List Beat)} {player_2:ByteArray} {n_3:Int} {back_4:Bool} {r:Int×Int} (hF:mW l_1 player_2 n_3 back_4=some r) :
  FnM Tryz.prog 52 [(vL Beat.enc l_1),(vS player_2),(vI n_3),(vB back_4)] [] (.tup [(vI r.1),(vI r.2)]) []:=by
 refine FnM.of_wH ⟨Tryz.prog,30,[],[]⟩ rfl Tryz.func52 rfl rfl (lb_ rfl) (by kernel_rfl) ?_
 unfold mW at hF
 refine aj (aa (vI 0) (aa (vI 0) (af (au (aj (aa (vL Beat.enc l_1) ?_))))))
 obtain ⟨r_5,hr_6,hF⟩:=bind_some hF
 refine aG (uE hr_6) rfl hb65 rfl rfl rfl rfl wz (aa (vI r_5) (af (aj (aa (vI r_5) (aa (vB (r_5 != 0)) (af ?_))))))
 rcases ah hF with⟨hc_7,hF⟩|⟨hc_7,hF⟩
 ·refine aB rfl hc_7 (aj (aa (vI r_5) (aa (vI 0) (aa (vI r_5) (af ?_)))))
  obtain rfl:=ae hF
  exact aN (bz [(vI 0),(vI r_5)] ⟨rfl,⟨rfl,trivial⟩⟩)
 ·refine aA rfl hc_7 (ay (au (aj (aa (vS player_2) ?_))))
  obtain ⟨r_8,hr_9,hF⟩:=bind_some hF
  refine aG (o6 hr_9) rfl hb53 rfl rfl rfl rfl wz (aa (vB (!r_8)) (af ?_))
  rcases ah hF with⟨hc_10,hF⟩|⟨hc_10,hF⟩
  ·refine aB rfl hc_10 (aj (aa (vI 0) (aa (vI 5) (af ?_))))
   obtain rfl:=ae hF
   exact aN (bz [(vI 0),(vI 5)] ⟨rfl,⟨rfl,trivial⟩⟩)
  ·refine aA rfl hc_10 (ay (au (aj (aa (vI n_3) ?_))))
   obtain ⟨r_11,hr_12,hF⟩:=bind_some hF
   refine aG (lF hr_12) rfl Ij rfl rfl rfl rfl wz (aa (vB (!r_11)) (af ?_))
   rcases ah hF with⟨hc_13,hF⟩|⟨hc_13,hF⟩
   ·refine aB rfl hc_13 (aj (aa (vI 0) (aa (vI 1) (af ?_))))
    obtain rfl:=ae hF
    exact aN (bz [(vI 0),(vI 1)] ⟨rfl,⟨rfl,trivial⟩⟩)
   ·refine aA rfl hc_13 (ay (aj (aa (vL Beat.enc l_1) (aa (vS player_2) (aa (vB back_4) ?_)))))
    obtain ⟨r_14,hr_15,hF⟩:=bind_some hF
    refine aG (wW hr_15) rfl hb68 rfl rfl rfl rfl wz (aa (vI n_3) ?_)
    obtain ⟨r_16,hr_17,hF⟩:=bind_some hF
    refine aG (yh hr_17) rfl hb67 rfl rfl rfl rfl wz (aa (vI r_16.1) (aa (vI r_16.2) (aa (vI r_16.1) (aa (vI r_16.2) (af ?_)))))
    obtain rfl:=ae hF
    exact aN (bz [(vI r_16.1),(vI r_16.2)] ⟨rfl,⟨rfl,trivial⟩⟩)
theorem Ab {l_1:(List Beat)} {player_2:ByteArray} {clock_3:Int} {r:Int×Int} (hF:qo l_1 player_2 clock_3=some r) :
  FnM Tryz.prog 35 [(vL Beat.enc l_1),(vS player_2),(vI clock_3)] [] (.tup [(vI r.1),(vI r.2)]) []:=by
 refine FnM.of_wH ⟨Tryz.prog,14,[],[]⟩ rfl Tryz.func35 rfl rfl (lb_ rfl) (by kernel_rfl) ?_
 unfold qo at hF
 refine aj (aa (vI 0) (aa (vI 0) (af (aj (aa (vL Beat.enc l_1) (aa (vS player_2) (aa (vI clock_3) ?_)))))))
 obtain ⟨r_4,hr_5,hF⟩:=bind_some hF
 refine aG (zU hr_5) rfl hb52 rfl rfl rfl rfl wz (aa (vI r_4.1) (aa (vI r_4.2) (aa (vI r_4.1) (aa (vI r_4.2) (af ?_)))))
 obtain rfl:=ae hF
 exact aN (bz [(vI r_4.1),(vI r_4.2)] ⟨rfl,⟨rfl,trivial⟩⟩)
theorem Ar {r:Bool} (hF:pz  = some r) :
  FnM Tryz.prog 19 [] [] (vB r) []:=by
 refine FnM.of_wH ⟨Tryz.prog,16,[],[]⟩ rfl Tryz.func19 rfl rfl (lb_ rfl) (by kernel_rfl) ?_
 unfold pz at hF
 refine aj (aa (vB false) (af (aj (aL (.d (.agg (Beat.enc (⟨(⟨#[112]⟩:ByteArray),0,100⟩:Beat)))) wz (by kernel_rfl) (aL (.d (.agg (Beat.enc (⟨(⟨#[112]⟩:ByteArray),1000,1300⟩:Beat)))) wz (by kernel_rfl) (kL (([(⟨(⟨#[112]⟩:ByteArray),0,100⟩:Beat),(⟨(⟨#[112]⟩:ByteArray),1000,1300⟩:Beat)]:List Beat).map Beat.enc) Hg ez63 rfl rfl rfl rfl rfl wz ?_))))))
 obtain ⟨r_1,hr_2,hF⟩:=bind_some hF
 refine aG (Ab hr_2) rfl hb35 rfl rfl rfl rfl wz (aa (.tup [(vI r_1.1),(vI r_1.2)]) (aa (vI r_1.1) (aa (vI r_1.2) (aa (vI r_1.1) (aa (vI r_1.2) (af (au ?_)))))))
 obtain ⟨v_3,h_4,hF⟩:=bind_some hF
 refine aH [(0,(vB v_3))] [] ?_ ?_
 ·refine av (aa (vI r_1.2) (aa (vB (r_1.2==0)) ?_))
  rcases ah h_4 with⟨hc_5,h_4⟩|⟨hc_5,h_4⟩
  ·refine aD rfl hc_5 wz (aL (vI r_1.1) wa rfl (aL (vB (r_1.1==500)) wa rfl (aa (vB (r_1.1==500)) (aa (vB (r_1.1==500)) (af ?_)))))
   obtain rfl:=ae h_4
   exact cu
  ·refine aD rfl hc_5 wz (ai (ai (aa (vB false) (aa (vB false) (af ?_)))))
   obtain rfl:=ae h_4
   exact cu
 ·rintro ⟨⟩ _ sl_ H_ hp_ hq_
  refine aJ _ hp_ hq_ ?_
  obtain rfl:=ae hF
  exact aN (bz [(vB v_3)] ⟨rfl,trivial⟩)
theorem xx {l_1:(List Int)} {r:Bool} (hF:ol l_1=some r) :
  FnM Tryz.prog 3 [(vL eI l_1)] [] (vB r) []:=by
 refine FnM.of_wH ⟨Tryz.prog,114,[],[]⟩ rfl Tryz.func3 rfl rfl (lb_ rfl) (by kernel_rfl) ?_
 unfold ol at hF
 refine aj (aa (vB false) (af (aj (aa (vL eI l_1) (aL (.d (.agg (Stream.enc (⟨l_1,0⟩:Stream)))) wz (by kernel_rfl) (q8 0 (.inl rfl) [(vL eI l_1),(vI 0)] rfl rfl wz (λn_2=>aa (.ref n_2 0 0) (af (aj (aa (.ref n_2 0 0) ?_))))))))))
 obtain ⟨r_3,hr_4,hF⟩:=bind_some hF
 refine dL 0 [0] il ft (ql hr_4) rfl hb4 rfl (by kernel_rfl) (by kernel_rfl) (by kernel_rfl) (by kernel_rfl) (by kernel_rfl) (by kernel_rfl) (by kernel_rfl) (by decide) (by kernel_rfl) wz (vL Log_.enc r_3.1) (by kernel_rfl) ([(n_2,some (.cells 2 [(vL eI r_3.2.L),(vI r_3.2.f_at)]))]:Hp) (by kernel_rfl) (aa (.ref n_2 0 0) ?_)
 obtain ⟨r_6,hr_7,hF⟩:=bind_some hF
 refine dL 0 [0] il ft (ql hr_7) rfl hb4 rfl (by kernel_rfl) (by kernel_rfl) (by kernel_rfl) (by kernel_rfl) (by kernel_rfl) (by kernel_rfl) (by kernel_rfl) (by decide) (by kernel_rfl) wz (vL Log_.enc r_6.1) (by kernel_rfl) ([(n_2,some (.cells 2 [(vL eI r_6.2.L),(vI r_6.2.f_at)]))]:Hp) (by kernel_rfl) (aa (vL Log_.enc r_3.1) (aa (vL Log_.enc r_6.1) (af (au (au ?_)))))
 obtain ⟨v_9,h_10,hF⟩:=bind_some hF
 refine aH [(3,(.ref n_2 0 0)),(4,(vL Log_.enc r_3.1)),(5,(vL Log_.enc r_6.1)),(30,(vB v_9.1))] [(n_2,some (.cells 2 [(vL eI v_9.2.1),(vI v_9.2.2)]))] ?_ ?_
 ·refine av (aa (vL Log_.enc r_3.1) (iT lK rfl wz (aa (vB (decide ((r_3.1.length:Int)>0))) ?_)))
  rcases ah h_10 with⟨hc_11,h_10⟩|⟨hc_11,h_10⟩
  ·refine aD rfl hc_11 wz (aL (.ref n_2 0 0) wa rfl ?_)
   obtain ⟨r_12,hr_13,h_10⟩:=bind_some h_10
   refine dL 0 [0] il ft (jD hr_13) rfl hb5 rfl (by kernel_rfl) (by kernel_rfl) (by kernel_rfl) (by kernel_rfl) (by kernel_rfl) (by kernel_rfl) (by kernel_rfl) (by decide) (by kernel_rfl) wa (vB r_12.1) (by kernel_rfl) ([(n_2,some (.cells 2 [(vL eI r_12.2.L),(vI r_12.2.f_at)]))]:Hp) (by kernel_rfl) (aa (vB r_12.1) (af ?_))
   obtain rfl:=ae h_10
   exact cu
  ·refine aD rfl hc_11 wz (ai (ai (aa (vB false) (af ?_))))
   obtain rfl:=ae h_10
   exact cu
 ·rintro ⟨⟩ _ sl_ H_ hp_ hq_
  refine aJ _ hp_ hq_ ?_
  obtain ⟨v_17,h_18,hF⟩:=bind_some hF
  refine Jh (β:=Unit) (λ_=>([(4,(vL Log_.enc r_3.1)),(5,(vL Log_.enc v_17.1))]:SL_)) (λ_=>([(n_2,some (.cells 2 [(vL eI v_17.2.1),(vI v_17.2.2)]))]:Hp)) (λ_=>True) ?_ ?_
  ·rcases ah h_18 with⟨hc_19,h_18⟩|⟨hc_19,h_18⟩
   ·refine aB rfl hc_19 (aj (aa (vL Log_.enc r_3.1) (aa (.ref n_2 0 0) (aa (vL Log_.enc r_3.1) (iT lK rfl wz ?_)))))
    obtain ⟨r_20,hr_21,h_18⟩:=bind_some h_18
    refine dL 0 [0] il ft (iw hr_21) rfl hb7 rfl (by kernel_rfl) (by kernel_rfl) (by kernel_rfl) (by kernel_rfl) (by kernel_rfl) (by kernel_rfl) (by kernel_rfl) (by decide) (by kernel_rfl) wz (vI r_20.1) (by kernel_rfl) ([(n_2,some (.cells 2 [(vL eI r_20.2.L),(vI r_20.2.f_at)]))]:Hp) (by kernel_rfl) ?_
    obtain ⟨y_23,hy_24,h_18⟩:=bind_some h_18
    refine yg lK bf (λ_=>rfl) rfl rfl hy_24 wz ?_
    obtain ⟨r_25,hr_26,h_18⟩:=bind_some h_18
    refine yE [] (nJ hr_26) rfl hb6 rfl (by kernel_rfl) (by kernel_rfl) (by kernel_rfl) (by kernel_rfl) (by kernel_rfl) rfl (by decide) (by kernel_rfl) wz ([(n_2,some (.cells 2 [(vL eI r_20.2.L),(vI r_20.2.f_at)]))]:Hp) (λ_=>by kernel_rfl) (λn_28=>aa (gV n_28 6 r_25) (af (aj (aa (.ref n_2 0 0) ?_))))
    obtain ⟨r_29,hr_30,h_18⟩:=bind_some h_18
    refine dL 0 [0] il ft (jD hr_30) rfl hb5 rfl (by kernel_rfl) (by kernel_rfl) (by kernel_rfl) (by kernel_rfl) (by kernel_rfl) (by kernel_rfl) (by kernel_rfl) (by decide) (by kernel_rfl) wz (vB r_29.1) (by kernel_rfl) ([(n_2,some (.cells 2 [(vL eI r_29.2.L),(vI r_29.2.f_at)])),(n_28,gB 6 Log_.enc r_25)]:Hp) (by kernel_rfl) (af ?_)
    rcases ah h_18 with⟨hc_32,h_18⟩|⟨hc_32,h_18⟩
    ·refine aB rfl hc_32 (av (aa (gV n_28 6 r_25) (aa (.ref n_2 0 0) (kL (([1,2]:List Int).map eI) sK y8 rfl rfl rfl rfl rfl wz ?_))))
     obtain ⟨r_33,hr_34,h_18⟩:=bind_some h_18
     refine dL 0 [0] il ft (kD hr_34) rfl hb8 rfl (by kernel_rfl) (by kernel_rfl) (by kernel_rfl) (by kernel_rfl) (by kernel_rfl) (by kernel_rfl) (by kernel_rfl) (by decide) (by kernel_rfl) wz (vI r_33.1) (by kernel_rfl) ([(n_2,some (.cells 2 [(vL eI r_33.2.L),(vI r_33.2.f_at)])),(n_28,gB 6 Log_.enc r_25)]:Hp) (by kernel_rfl) ?_
     obtain ⟨_,hi_36,h_18⟩:=bind_some h_18
     refine FD bg rfl rfl (aW hi_36) (aM hi_36) wz (bD wS rfl 4 rfl wz ?_)
     obtain ⟨e_37,hy_38,h_18⟩:=bind_some h_18
     refine cO 0 il ft 1 sz3 rfl rfl hy_38 (⟨e_37.Player,e_37.Item,e_37.No,e_37.Clock,r_33.1,e_37.Sum⟩:Log_) rfl wz (aF (v':=(gV n_28 6 (r_25.set (0+(0:Int).toNat) (⟨e_37.Player,e_37.Item,e_37.No,e_37.Clock,r_33.1,e_37.Sum⟩:Log_)))) 5 rfl (gX (by simp)) (aF (v':=(gV n_28 6 (r_25.set (0+(0:Int).toNat) (⟨e_37.Player,e_37.Item,e_37.No,e_37.Clock,r_33.1,e_37.Sum⟩:Log_)))) 37 rfl (gX (by simp)) (aF (v':=(gV n_28 6 (r_25.set (0+(0:Int).toNat) (⟨e_37.Player,e_37.Item,e_37.No,e_37.Clock,r_33.1,e_37.Sum⟩:Log_)))) 40 rfl (gX (by simp)) (af ?_))))
     intro C_ b_ Q_ key_
     refine lT 1 rfl (jN 5 1 rfl rfl (jN 37 1 rfl rfl (jN 40 1 rfl rfl ?_)))
     obtain rfl:=ae h_18
     exact key_ () trivial _ _ rfl (aC rfl)
    ·refine aA rfl hc_32 (ay ?_)
     intro C_ b_ Q_ key_
     refine lT 1 rfl (jN 5 1 rfl rfl (jN 37 1 rfl rfl ?_))
     obtain rfl:=ae h_18
     exact key_ () trivial _ _ rfl (aC rfl)
   ·refine aA rfl hc_19 (ay ?_)
    intro C_ b_ Q_ key_
    obtain rfl:=ae h_18
    exact key_ () trivial _ _ rfl (aC rfl)
  ·rintro ⟨⟩ _ sl_ H_ hp_ hq_
   refine aJ _ hp_ hq_ (aj (aa (vL Log_.enc r_3.1) (aa (vL Log_.enc v_17.1) ?_)))
   obtain ⟨r_39,hr_40,hF⟩:=bind_some hF
   refine aG (zg hr_40) rfl hb9 rfl rfl rfl rfl wz (aa (.tup [(vL Log_.enc r_39.1),(vI r_39.2)]) (aa (vL Log_.enc r_39.1) (aa (vI r_39.2) (aa (vL Log_.enc r_39.1) (aa (vI r_39.2) (af (aj (aa (vL Log_.enc r_3.1) ?_))))))))
   obtain ⟨r_41,hr_42,hF⟩:=bind_some hF
   refine aG (yA hr_42) rfl hb10 rfl rfl rfl rfl wz (aa (.tup [(vL eI r_41.1),(vI r_41.2)]) (aa (vL eI r_41.1) (aa (vI r_41.2) (aa (vL eI r_41.1) (aa (vI r_41.2) (af (aj (aa (vL Log_.enc r_3.1) ?_))))))))
   obtain ⟨r_43,hr_44,hF⟩:=bind_some hF
   refine aG (xw hr_44) rfl hb11 rfl rfl rfl rfl wz (aa (.tup [(vL Log_.enc r_43.1),(vI r_43.2)]) (aa (vL Log_.enc r_43.1) (aa (vI r_43.2) (aa (vL Log_.enc r_43.1) (aa (vI r_43.2) (af (aj (aa (vL Log_.enc r_3.1) ?_))))))))
   obtain ⟨r_45,hr_46,hF⟩:=bind_some hF
   refine aG (qN hr_46) rfl hb12 rfl rfl rfl rfl wz (aa (vI r_45) (af (aj (aa (vI r_45) (aa (vL Log_.enc v_17.1) ?_)))))
   obtain ⟨r_47,hr_48,hF⟩:=bind_some hF
   refine aG (qN hr_48) rfl hb12 rfl rfl rfl rfl wz (kL (([r_45,r_47]:List Int).map eI) es58 ez58 rfl rfl rfl rfl rfl wz ?_)
   obtain ⟨r_49,hr_50,hF⟩:=bind_some hF
   refine aG (Ew hr_50) rfl hb13 rfl rfl rfl rfl wz (aa (vI r_49) (af (aJ (H0:=([(n_2,some (.cells 2 [(vL eI v_17.2.1),(vI v_17.2.2)]))]:Hp)) ([(4,(vL Log_.enc r_3.1)),(5,(vL Log_.enc v_17.1)),(6,(vL Log_.enc r_39.1)),(7,(vI r_39.2)),(8,(vL eI r_41.1)),(9,(vI r_41.2)),(10,(vL Log_.enc r_43.1)),(11,(vI r_43.2)),(12,(vI r_45)),(13,(vI r_49))]:SL_) (by kernel_rfl) (zb (by kernel_rfl)) (aj (aa .nil (aa .nil (af (au (aj (aa (vI r_49) (aa (vB (r_49==0)) (af (BJ Log_.enc 14 rfl ?_)))))))))))))
   obtain ⟨v_53,h_54,hF⟩:=bind_some hF
   refine aH [(4,(vL Log_.enc r_3.1)),(6,(vL Log_.enc r_39.1)),(7,(vI r_39.2)),(8,(vL eI r_41.1)),(9,(vI r_41.2)),(10,(vL Log_.enc r_43.1)),(11,(vI r_43.2)),(12,(vI r_45)),(13,(vI v_53.1)),(14,(vL Log_.enc v_53.2)),(15,.nil)] [(n_2,some (.cells 2 [(vL eI v_17.2.1),(vI v_17.2.2)]))] ?_ ?_
   ·rcases ah h_54 with⟨hc_55,h_54⟩|⟨hc_55,h_54⟩
    ·refine aB rfl hc_55 (av (aa (vL Log_.enc r_3.1) (aa (vL Log_.enc v_17.1) ?_)))
     obtain ⟨r_56,hr_57,h_54⟩:=bind_some h_54
     refine aG (Aw hr_57) rfl hb14 rfl rfl rfl rfl wz (aa (.tup [(vL Log_.enc r_56.1),(vI r_56.2)]) (aa (vL Log_.enc r_56.1) (aa (vI r_56.2) (aa (vL Log_.enc r_56.1) (aa (vI r_56.2) (af ?_))))))
     obtain rfl:=ae h_54
     exact cu
    ·refine aA rfl hc_55 (ay ?_)
     obtain rfl:=ae h_54
     exact cu
   ·rintro ⟨⟩ _ sl_ H_ hp_ hq_
    refine aJ _ hp_ hq_ (aj (aa .nil (af (au (aj (aa (vI r_45) (aa (vB (r_45==0)) (af (BJ Log_.enc 15 rfl (BJ eI 16 rfl ?_))))))))))
    obtain ⟨v_62,h_63,hF⟩:=bind_some hF
    refine aH [(6,(vL Log_.enc r_39.1)),(7,(vI r_39.2)),(8,(vL eI r_41.1)),(9,(vI r_41.2)),(10,(vL Log_.enc r_43.1)),(11,(vI r_43.2)),(12,(vI r_45)),(13,(vI v_53.1)),(14,(vL Log_.enc v_53.2)),(15,(vL Log_.enc v_62.1)),(16,(vL eI v_62.2))] [(n_2,some (.cells 2 [(vL eI v_17.2.1),(vI v_17.2.2)]))] ?_ ?_
    ·rcases ah h_63 with⟨hc_64,h_63⟩|⟨hc_64,h_63⟩
     ·refine aB rfl hc_64 (av (aa (vL Log_.enc r_3.1) ?_))
      obtain ⟨r_65,hr_66,h_63⟩:=bind_some h_63
      refine aG (yz hr_66) rfl hb15 rfl rfl rfl rfl wz (aa (vL Log_.enc r_3.1) ?_)
      obtain ⟨r_67,hr_68,h_63⟩:=bind_some h_63
      refine aG (xA hr_68) rfl hb16 rfl rfl rfl rfl wz (aa (vL eI r_65) (aa (vL Log_.enc r_67) (af ?_)))
      obtain rfl:=ae h_63
      exact cu
     ·refine aA rfl hc_64 (ay ?_)
      obtain rfl:=ae h_63
      exact cu
    ·rintro ⟨⟩ _ sl_ H_ hp_ hq_
     refine aJ _ hp_ hq_ (au ?_)
     obtain ⟨v_69,h_70,hF⟩:=bind_some hF
     refine aH [(2,(vB v_69))] [(n_2,some (.cells 2 [(vL eI v_17.2.1),(vI v_17.2.2)]))] ?_ ?_
     ·refine av (aa (vI r_39.2) (aa (vI v_53.1) (aa (vB (r_39.2==v_53.1)) ?_)))
      rcases ah h_70 with⟨hc_71,h_70⟩|⟨hc_71,h_70⟩
      ·refine aD rfl hc_71 wz (aL (vL Log_.enc r_39.1) wa rfl (aL (vL Log_.enc v_53.2) wa rfl ?_))
       obtain ⟨r_72,hr_73,h_70⟩:=bind_some h_70
       refine aG (kK hr_73) rfl hb17 rfl rfl rfl rfl wa (aa (vB r_72) ?_)
       rcases ah h_70 with⟨hc_74,h_70⟩|⟨hc_74,h_70⟩
       ·refine aD rfl hc_74 wz (aL (vI r_41.2) wa rfl (aL (vI r_45) wa rfl (aL (vB (r_41.2==r_45)) wa rfl (aa (vB (r_41.2==r_45)) ?_))))
        rcases ah h_70 with⟨hc_75,h_70⟩|⟨hc_75,h_70⟩
        ·refine aD rfl hc_75 wz (aL (vL eI r_41.1) wa rfl (aL (vL eI v_62.2) wa rfl ?_))
         obtain ⟨r_76,hr_77,h_70⟩:=bind_some h_70
         refine aG (qQ hr_77) rfl hb18 rfl rfl rfl rfl wa (aa (vB r_76) ?_)
         rcases ah h_70 with⟨hc_78,h_70⟩|⟨hc_78,h_70⟩
         ·refine aD rfl hc_78 wz (aL (vI r_43.2) wa rfl (aL (vI r_45) wa rfl (aL (vB (r_43.2==r_45)) wa rfl (aa (vB (r_43.2==r_45)) ?_))))
          rcases ah h_70 with⟨hc_79,h_70⟩|⟨hc_79,h_70⟩
          ·refine aD rfl hc_79 wz (aL (vL Log_.enc r_43.1) wa rfl (aL (vL Log_.enc v_62.1) wa rfl ?_))
           obtain ⟨r_80,hr_81,h_70⟩:=bind_some h_70
           refine aG (kK hr_81) rfl hb17 rfl rfl rfl rfl wa (aa (vB r_80) ?_)
           rcases ah h_70 with⟨hc_82,h_70⟩|⟨hc_82,h_70⟩
           ·refine aD rfl hc_82 wz ?_
            obtain ⟨r_83,hr_84,h_70⟩:=bind_some h_70
            refine aG (Ar hr_84) rfl hb19 rfl rfl rfl rfl wa (aa (vB r_83) (aa (vB r_83) (af ?_)))
            obtain rfl:=ae h_70
            exact cu
           ·refine aD rfl hc_82 wz (ai (aa (vB false) (aa (vB false) (af ?_))))
            obtain rfl:=ae h_70
            exact cu
          ·refine aD rfl hc_79 wz (ai (ai (ai (aa (vB false) (aa (vB false) (ai (aa (vB false) (aa (vB false) (af ?_)))))))))
           obtain rfl:=ae h_70
           exact cu
         ·refine aD rfl hc_78 wz (ai (ai (ai (aa (vB false) (aa (vB false) (ai (ai (ai (aa (vB false) (aa (vB false) (ai (aa (vB false) (aa (vB false) (af ?_))))))))))))))
          obtain rfl:=ae h_70
          exact cu
        ·refine aD rfl hc_75 wz (ai (ai (ai (aa (vB false) (aa (vB false) (ai (ai (ai (aa (vB false) (aa (vB false) (ai (ai (ai (aa (vB false) (aa (vB false) (ai (aa (vB false) (aa (vB false) (af ?_)))))))))))))))))))
         obtain rfl:=ae h_70
         exact cu
       ·refine aD rfl hc_74 wz (ai (ai (ai (aa (vB false) (aa (vB false) (ai (ai (ai (aa (vB false) (aa (vB false) (ai (ai (ai (aa (vB false) (aa (vB false) (ai (ai (ai (aa (vB false) (aa (vB false) (ai (aa (vB false) (aa (vB false) ?_)))))))))))))))))))))))
        refine af ?_
        obtain rfl:=ae h_70
        exact cu
      ·refine aD rfl hc_71 wz (ai (ai (ai (aa (vB false) (aa (vB false) (ai (ai (ai (aa (vB false) (aa (vB false) (ai (ai (ai (aa (vB false) (aa (vB false) (ai (ai (ai (aa (vB false) (aa (vB false) (ai (ai (ai ?_)))))))))))))))))))))))
       refine aa (vB false) (aa (vB false) (ai (aa (vB false) (aa (vB false) (af ?_)))))
       obtain rfl:=ae h_70
       exact cu
     ·rintro ⟨⟩ _ sl_ H_ hp_ hq_
      refine aJ _ hp_ hq_ ?_
      obtain rfl:=ae hF
      exact aN (bz [(vB v_69)] ⟨rfl,trivial⟩)
end Go.Proofs.YtdpginbnipklcaaGreatDoor.Law

