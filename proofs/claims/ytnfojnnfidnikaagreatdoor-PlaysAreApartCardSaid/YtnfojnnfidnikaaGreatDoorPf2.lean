/-
 The machine computes these plain functions (written by a program of ours).
-/
import Derived.Test.YtnfojnnfidnikaaGreatDoorFacts
import Derived.Test.YtnfojnnfidnikaaGreatDoorDefs
import Derived.Test.YtnfojnnfidnikaaGreatDoorPf1
import Derived.Test.YtnfojnnfidnikaaGreatDoorShelf
open Go Go.Eng Go.Proofs
namespace Go.Proofs.YtnfojnnfidnikaaGreatDoor.Law
set_option maxRecDepth 100000
set_option linter.unusedVariables false
set_option maxHeartbeats 1000000
theorem uU {l_1:(List Beat_)} {n_2:Int} {r:Int×Int} (hF:gz l_1 n_2=some r) :
  FnM Tryz.prog 43 [(vL Beat_.enc l_1),(vI n_2)] [] (.tup [(vI r.1),(vI r.2)]) []:=by
 refine FnM.of_wH ⟨Tryz.prog,108,[],[]⟩ rfl Tryz.func43 rfl rfl (lb_ rfl) (by kernel_rfl) ?_
 unfold gz at hF
 refine ai (aa (vI 0) (aa (vI 0) (ah (ak (ai (aa (vL Beat_.enc l_1) (bN un99 rfl wz (aa (vB ((l_1.length:Int)==0)) (ah ?_)))))))))
 rcases aj hF with⟨hc_3,hF⟩|⟨hc_3,hF⟩
 ·refine aA rfl hc_3 (ai (aa (vI 0) (aa (vI 8) (ah ?_))))
  obtain rfl:=ae hF
  exact ay (aM [(vI 0),(vI 8)] ⟨rfl,⟨rfl,trivial⟩⟩)
 ·refine ax rfl hc_3 (av (ai (aa (vI 0) (ah (ak ?_)))))
  obtain ⟨o_12,hj_13,hF⟩:=bind_some hF
  obtain ⟨nq_51,hj_13⟩:=dh hj_13
  refine fQ (λ(s_9:Int)=>[(0,(vL Beat_.enc l_1)),(1,(vI n_2)),(6,(vI s_9))]) (λ(s_9:Int)=>[]) (λ(k_4:Nat)=>(λ(s_9:Int)=>[(0,(vL Beat_.enc l_1)),(1,(vI n_2)),(6,(vI s_9))])) (λs=>eZ l_1 n_2 s) o_12 nq_51 0 hj_13 rfl (aK rfl) ?_ ?_
  ·rintro ⟨k_4,s_9⟩ hL_11
   dsimp only at hL_11
   cases k_4 with
   | zero=>cases hL_11
   | succ k_4 =>
    obtain ⟨c_,hc_10,hL_11⟩:=bind_some hL_11
    unfold eZ at hc_10
    refine ak (ak ?_)
    obtain ⟨v_14,h_15,hc_10⟩:=bind_some hc_10
    refine aS [(0,(vL Beat_.enc l_1)),(1,(vI n_2)),(6,(vI s_9)),(25,(vB v_14))] [] ?_ ?_
    ·refine au (aa (vI s_9) (aa (vL Beat_.enc l_1) (bN un99 rfl wz (aa (vB (decide (s_9<(l_1.length:Int)))) ?_))))
     rcases aj h_15 with⟨hc_16,h_15⟩|⟨hc_16,h_15⟩
     ·refine aC rfl hc_16 wz (aJ (vL Beat_.enc l_1) wa rfl (aJ (vI s_9) wa rfl ?_))
      obtain ⟨y_17,hy_18,h_15⟩:=bind_some h_15
      refine dB FT rfl rfl hy_18 rfl wa (kv rX rfl [.int .i64 y_17.f_from,.int .i64 y_17.f_to] rfl rfl wa (bH sz3 ag3 rfl (vI y_17.f_from) rfl wa (aJ (vI n_2) wa rfl (aJ (vB (decide (y_17.f_from<=n_2))) wa rfl (aa (vB (decide (y_17.f_from<=n_2))) (ah ?_))))))
      obtain rfl:=ae h_15
      exact cu
     ·refine aC rfl hc_16 wz (af (af (af (af (af (af (af (aa (vB false) (ah ?_)))))))))
      obtain rfl:=ae h_15
      exact cu
    ·rintro ⟨⟩ _ sl_ H_ hp_ hq_
     refine aR _ hp_ hq_ ?_
     rcases aj hc_10 with⟨hc_19,hc_10⟩|⟨hc_19,hc_10⟩
     ·refine aA rfl hc_19 (av (aQ (au (aa (vI s_9) (aa (vI (w64 (s_9+1))) (aa (vI (w64 (s_9+1))) (ah ?_)))))))
      obtain rfl:=ae hc_10
      exact aZ (k_4,(w64 (s_9+1))) hL_11 (ls_ _) rfl (aK rfl)
     ·refine ax rfl hc_19 (bf ?_)
      obtain rfl:=ae hc_10
      obtain rfl:=ae hL_11
      exact aY (s_9) rfl rfl (aK rfl)
  ·rintro s_9 ho_ sl_ H_ hp_ hq_
   subst ho_
   refine aR _ hp_ hq_ (ai (aa (vI 0) (ah (ak (aQ (ai (aa (vI s_9) (aa (vB (s_9==0)) (aa (vB (s_9==0)) (ah ?_))))))))))
   rcases aj hF with⟨hc_20,hF⟩|⟨hc_20,hF⟩
   ·refine aA rfl hc_20 (bC (aa (vL Beat_.enc l_1) ?_))
    obtain ⟨y_21,hy_22,hF⟩:=bind_some hF
    refine dB FT rfl rfl hy_22 rfl wz (kv uN rfl [.int .i64 y_21.f_to] rfl rfl wz (bH sz3 ag3 rfl (vI y_21.f_to) rfl wz (aa (vL Beat_.enc l_1) ?_)))
    obtain ⟨y_23,hy_24,hF⟩:=bind_some hF
    refine dB FT rfl rfl hy_24 rfl wz (kv rX rfl [.int .i64 y_23.f_from,.int .i64 y_23.f_to] rfl rfl wz (bH sz3 ag3 rfl (vI y_23.f_from) rfl wz (aa (vI n_2) (aa (vI (w64 (y_23.f_from-n_2))) (aa (vI (w64 (y_21.f_to-(w64 (y_23.f_from-n_2))))) (aa (vI (w64 (y_21.f_to-(w64 (y_23.f_from-n_2))))) (ah (ak (ai (aa (vI (w64 (y_21.f_to-(w64 (y_23.f_from-n_2))))) ?_))))))))))
    obtain ⟨r_25,hr_26,hF⟩:=bind_some hF
    refine aB (eY hr_26) rfl GU rfl rfl rfl rfl wz (aa (vB (!r_25)) (ah ?_))
    rcases aj hF with⟨hc_27,hF⟩|⟨hc_27,hF⟩
    ·refine aA rfl hc_27 (ai (aa (vI 0) (aa (vI 11) (ah ?_))))
     obtain rfl:=ae hF
     exact ay (aM [(vI 0),(vI 11)] ⟨rfl,⟨rfl,trivial⟩⟩)
    ·refine ax rfl hc_27 (av (ai (aa (vI (w64 (y_21.f_to-(w64 (y_23.f_from-n_2))))) (aa (vI (w64 (y_21.f_to-(w64 (y_23.f_from-n_2))))) (aa (vI 0) (ah ?_))))))
     obtain rfl:=ae hF
     exact ay (aM [(vI (w64 (y_21.f_to-(w64 (y_23.f_from-n_2))))),(vI 0)] ⟨rfl,⟨rfl,trivial⟩⟩)
   ·refine ax rfl hc_20 (ai (aa (vI s_9) (aa (vL Beat_.enc l_1) (bN un99 rfl wz (aa (vB (s_9==(l_1.length:Int))) (aa (vB (s_9==(l_1.length:Int))) (ah ?_)))))))
    rcases aj hF with⟨hc_28,hF⟩|⟨hc_28,hF⟩
    ·refine aA rfl hc_28 (bC (aa (vL Beat_.enc l_1) (aa (vI s_9) (aa (vI (w64 (s_9-1))) ?_))))
     obtain ⟨y_29,hy_30,hF⟩:=bind_some hF
     refine dB FT rfl rfl hy_30 rfl wz (kv uN rfl [.int .i64 y_29.f_to] rfl rfl wz (bH sz3 ag3 rfl (vI y_29.f_to) rfl wz (aa (vI n_2) (aa (vI (w64 (y_29.f_to+n_2))) (aa (vL Beat_.enc l_1) (aa (vI s_9) (aa (vI (w64 (s_9-1))) ?_)))))))
     obtain ⟨y_31,hy_32,hF⟩:=bind_some hF
     refine dB FT rfl rfl hy_32 rfl wz (kv rX rfl [.int .i64 y_31.f_from,.int .i64 y_31.f_to] rfl rfl wz (bH sz3 ag3 rfl (vI y_31.f_from) rfl wz (aa (vI (w64 ((w64 (y_29.f_to+n_2))-y_31.f_from))) (aa (vI (w64 ((w64 (y_29.f_to+n_2))-y_31.f_from))) (ah (ak (ai (aa (vI (w64 ((w64 (y_29.f_to+n_2))-y_31.f_from))) ?_))))))))
     obtain ⟨r_33,hr_34,hF⟩:=bind_some hF
     refine aB (eY hr_34) rfl GU rfl rfl rfl rfl wz (aa (vB (!r_33)) (ah ?_))
     rcases aj hF with⟨hc_35,hF⟩|⟨hc_35,hF⟩
     ·refine aA rfl hc_35 (ai (aa (vI 0) (aa (vI 11) (ah (aR (H0:=([]:Hp)) ([(4,(vI 0)),(5,(vI 11))]:SL_) (by kernel_rfl) (Ae (by kernel_rfl)) ?_)))))
      obtain rfl:=ae hF
      exact ay (aM [(vI 0),(vI 11)] ⟨rfl,⟨rfl,trivial⟩⟩)
     ·refine ax rfl hc_35 (av (ai (aa (vI (w64 ((w64 (y_29.f_to+n_2))-y_31.f_from))) (aa (vI (w64 ((w64 (y_29.f_to+n_2))-y_31.f_from))) (aa (vI 0) (ah (aR (H0:=([]:Hp)) ([(4,(vI (w64 ((w64 (y_29.f_to+n_2))-y_31.f_from)))),(5,(vI 0))]:SL_) (by kernel_rfl) (Ae (by kernel_rfl)) ?_)))))))
      obtain rfl:=ae hF
      exact ay (aM [(vI (w64 ((w64 (y_29.f_to+n_2))-y_31.f_from))),(vI 0)] ⟨rfl,⟨rfl,trivial⟩⟩)
    ·refine ax rfl hc_28 (ak (bC (aa (vL Beat_.enc l_1) (aa (vI s_9) (aa (vI (w64 (s_9-1))) ?_)))))
     obtain ⟨y_36,hy_37,hF⟩:=bind_some hF
     refine dB FT rfl rfl hy_37 rfl wz (bH EX ag130 rfl (.d (.agg (Beat_.enc y_36))) rfl wz (aa (vL Beat_.enc l_1) (aa (vI s_9) ?_)))
     obtain ⟨y_38,hy_39,hF⟩:=bind_some hF
     refine dB FT rfl rfl hy_39 rfl wz (bH EX ag130 rfl (.d (.agg (Beat_.enc y_38))) rfl wz (di 9 (.inr (by kernel_rfl)) z130 rfl wz (λn_40=>di 10 (.inr (by kernel_rfl)) z130 rfl wz (λn_41=>gu 11 (.inr (by kernel_rfl)) (λ_ _ ag=>⟨.inr (.inr (by kernel_rfl)),⟨.inr (.inr (by kernel_rfl)),trivial⟩⟩) 0 EX rfl rfl [(vI y_36.f_from),(vI y_36.f_to)] rfl wz (gu 12 (.inr (by kernel_rfl)) (λ_ _ ag=>⟨.inr (.inr (by kernel_rfl)),⟨.inr (.inr (by kernel_rfl)),⟨.inr (.inr (by kernel_rfl)),trivial⟩⟩⟩) 1 EX rfl rfl [(vI y_38.f_from),(vI y_38.f_to)] rfl wz (ah (ak (ak ?_))))))))
     obtain ⟨v_42,h_43,hF⟩:=bind_some hF
     refine aS [(1,(vI n_2)),(8,(.ref n_40 0 0)),(9,(.ref n_41 0 0)),(50,(vB v_42))] [(n_40,some (.cells 2 [(vI y_36.f_from),(vI y_36.f_to)])),(n_41,some (.cells 2 [(vI y_38.f_from),(vI y_38.f_to)]))] ?_ ?_
     ·refine au (aH rX rfl 0 rfl wz (aG 0 1 il ft sz3 ag3 rfl rfl (vI y_38.f_from) rfl wz (aH rX rfl 0 rfl wz (aG 0 0 il ft sz3 ag3 rfl rfl (vI y_36.f_from) rfl wz (aa (vI (w64 (y_38.f_from-y_36.f_from))) (aa (vB (decide ((w64 (y_38.f_from-y_36.f_from))>2592000000))) ?_))))))
      rcases aj h_43 with⟨hc_44,h_43⟩|⟨hc_44,h_43⟩
      ·refine aC rfl hc_44 wz (af (af (af (af (af (af (aa (vB true) (ah ?_))))))))
       obtain rfl:=ae h_43
       exact cu
      ·refine aC rfl hc_44 wz (aH uN rfl 1 rfl wa (aG 0 1 il ft sz3 ag3 rfl rfl (vI y_38.f_to) rfl wa (aH uN rfl 1 rfl wa (aG 0 0 il ft sz3 ag3 rfl rfl (vI y_36.f_to) rfl wa (aJ (vI (w64 (y_38.f_to-y_36.f_to))) wa rfl (aJ (vB (decide ((w64 (y_38.f_to-y_36.f_to))>2592000000))) wa rfl (aa (vB (decide ((w64 (y_38.f_to-y_36.f_to))>2592000000))) (ah ?_))))))))
       obtain rfl:=ae h_43
       exact cu
     ·rintro ⟨⟩ _ sl_ H_ hp_ hq_
      refine aR _ hp_ hq_ ?_
      rcases aj hF with⟨hc_45,hF⟩|⟨hc_45,hF⟩
      ·refine aA rfl hc_45 (ai (aa (vI 0) (aa (vI 2) (ah ?_))))
       obtain rfl:=ae hF
       exact ay (aM [(vI 0),(vI 2)] ⟨rfl,⟨rfl,trivial⟩⟩)
      ·refine ax rfl hc_45 (av (bC (aH uN rfl 1 rfl wz (aG 1 0 (.inr (by kernel_rfl)) (λ_ _ ag=>trivial) sz3 ag3 rfl rfl (vI y_36.f_to) rfl wz (aa (vI n_2) (aH rX rfl 0 rfl wz (aG 4 0 (.inr (by kernel_rfl)) (λ_ _ ag=>⟨.inl ⟨rfl,rfl⟩,trivial⟩) sz3 ag3 rfl rfl (vI y_36.f_from) rfl wz (aa (vI (w64 (n_2-y_36.f_from))) (aH uN rfl 1 rfl wz (aG 7 1 (.inr (by kernel_rfl)) (λ_ _ ag=>⟨.inl ⟨rfl,rfl⟩,⟨.inl ⟨rfl,rfl⟩,trivial⟩⟩) sz3 ag3 rfl rfl (vI y_38.f_to) rfl wz (aH uN rfl 1 rfl wz (aG 9 0 (.inr (by kernel_rfl)) (λ_ _ ag=>⟨.inl ⟨rfl,rfl⟩,⟨.inl ⟨rfl,rfl⟩,⟨.inl ⟨rfl,rfl⟩,trivial⟩⟩⟩) sz3 ag3 rfl rfl (vI y_36.f_to) rfl wz (aa (vI (w64 (y_38.f_to-y_36.f_to))) (aa (vI (w64 ((w64 (n_2-y_36.f_from))*(w64 (y_38.f_to-y_36.f_to))))) (aH rX rfl 0 rfl wz (aG 13 1 (.inr (by kernel_rfl)) (λ_ _ ag=>⟨.inl ⟨rfl,rfl⟩,⟨.inl ⟨rfl,rfl⟩,⟨.inl ⟨rfl,rfl⟩,⟨.inl ⟨rfl,rfl⟩,trivial⟩⟩⟩⟩) sz3 ag3 rfl rfl (vI y_38.f_from) rfl wz (aH rX rfl 0 rfl wz (aG 15 0 (.inr (by kernel_rfl)) (λ_ _ ag=>⟨.inl ⟨rfl,rfl⟩,⟨.inl ⟨rfl,rfl⟩,⟨.inl ⟨rfl,rfl⟩,⟨.inl ⟨rfl,rfl⟩,⟨.inl ⟨rfl,rfl⟩,trivial⟩⟩⟩⟩⟩) sz3 ag3 rfl rfl (vI y_36.f_from) rfl wz (aa (vI (w64 (y_38.f_from-y_36.f_from))) ?_)))))))))))))))))))
       obtain ⟨q_46,hz_47,hF⟩:=bind_some hF
       refine Px rfl rfl hz_47 wz (aa (vI (w64 (y_36.f_to+q_46))) (aa (vI (w64 (y_36.f_to+q_46))) (ah (ak (ai (aa (vI (w64 (y_36.f_to+q_46))) ?_))))))
       obtain ⟨r_48,hr_49,hF⟩:=bind_some hF
       refine aB (eY hr_49) rfl GU rfl rfl rfl rfl wz (aa (vB (!r_48)) (ah ?_))
       rcases aj hF with⟨hc_50,hF⟩|⟨hc_50,hF⟩
       ·refine aA rfl hc_50 (ai (aa (vI 0) (aa (vI 11) (ah ?_))))
        obtain rfl:=ae hF
        exact ay (aM [(vI 0),(vI 11)] ⟨rfl,⟨rfl,trivial⟩⟩)
       ·refine ax rfl hc_50 (av (ai (aa (vI (w64 (y_36.f_to+q_46))) (aa (vI (w64 (y_36.f_to+q_46))) (aa (vI 0) (ah ?_))))))
        obtain rfl:=ae hF
        exact ay (aM [(vI (w64 (y_36.f_to+q_46))),(vI 0)] ⟨rfl,⟨rfl,trivial⟩⟩)
theorem xq {x_1:Placed} {y_2:Placed} {r:Int} (hF:jH x_1 y_2=some r) :
  FnM Tryz.prog 45 [(.d (.agg (Placed.enc x_1))),(.d (.agg (Placed.enc y_2)))] [] (vI r) []:=by
 refine FnM.of_wH ⟨Tryz.prog,10,[],[]⟩ rfl Tryz.func45 rfl rfl (lb_ rfl) (by kernel_rfl) ?_
 unfold jH at hF
 refine ai (fJ 0 (.inl rfl) [(vI x_1.f_i),(vI x_1.f_at)] rfl rfl wz (λn_3=>fJ 0 (.inl rfl) [(vI y_2.f_i),(vI y_2.f_at)] rfl rfl wz (λn_4=>aa (vI 0) (ah (ai (aH Hq rfl 1 rfl wz (aG 0 0 il ft sz3 ag3 rfl rfl (vI x_1.f_at) rfl wz (aH Hq rfl 1 rfl wz (aG 0 1 il ft sz3 ag3 rfl rfl (vI y_2.f_at) rfl wz ?_)))))))))
 obtain ⟨r_5,hr_6,hF⟩:=bind_some hF
 refine aB (gq hr_6) rfl Mk rfl rfl rfl rfl wz (aa (vI r_5) (ah ?_))
 obtain rfl:=ae hF
 exact ay (aM [(vI r_5)] ⟨rfl,trivial⟩)
theorem eQ {data_1:(List Placed)} {a_2:Int} {b_3:Int} {r:(List Placed)} (hF:bR data_1 a_2 b_3=some r) :
  FnM Tryz.prog 111 [(dV (aI 0) 2 data_1),(vI a_2),(vI b_3),(.fn 45 [])] (([]:List Box)++gI 2 Placed.enc data_1) (.tup []) (([]:List Box).map some++gT data_1 (gB 2 Placed.enc r)):=by
 refine FnM.of_wHv ⟨Tryz.prog,53,[],[]⟩ rfl Tryz.func111 rfl rfl (lb_ rfl) (by kernel_rfl) ?_
 unfold bR at hF
 refine ai (aa (vI a_2) (aa (vI (w64 (a_2+1))) (aa (vI (w64 (a_2+1))) (ah ?_))))
 obtain ⟨o_13,hj_14,hF⟩:=bind_some hF
 obtain ⟨nq_51,hj_14⟩:=dh hj_14
 refine fQ (λ(s_10:(List Placed)×Int)=>[]) (λ(s_10:(List Placed)×Int)=>[((aI 0),gB 2 Placed.enc s_10.1)]) (λ(k_5:Nat)=>(λ(s_10:(List Placed)×Int)=>[(0,(dV (aI 0) 2 s_10.1)),(1,(vI a_2)),(2,(vI b_3)),(3,(.fn 45 [])),(8,(vI s_10.2))])) (λs=>cB b_3 a_2 s) o_13 nq_51 (data_1,(w64 (a_2+1))) hj_14 rfl (aK rfl) ?_ ?_
 ·rintro ⟨k_5,s_10⟩ hL_12
  dsimp only at hL_12
  cases k_5 with
  | zero=>cases hL_12
  | succ k_5 =>
   obtain ⟨c_,hc_11,hL_12⟩:=bind_some hL_12
   unfold cB at hc_11
   refine ak (ai (aa (vI s_10.2) (aa (vI b_3) (aa (vB (decide (s_10.2<b_3))) (ah ?_)))))
   rcases aj hc_11 with⟨hc_15,hc_11⟩|⟨hc_15,hc_11⟩
   ·refine aA rfl hc_15 (av (ak (aQ (ai (aa (vI s_10.2) (aa (vI s_10.2) (ah ?_)))))))
    obtain ⟨o_24,hj_25,hc_11⟩:=bind_some hc_11
    obtain ⟨nq_50,hj_25⟩:=dh hj_25
    refine fQ (λ(s_21:(List Placed)×Int)=>[(0,(dV (aI 0) 2 s_21.1)),(1,(vI a_2)),(2,(vI b_3)),(3,(.fn 45 [])),(8,(vI s_10.2))]) (λ(s_21:(List Placed)×Int)=>[((aI 0),gB 2 Placed.enc s_21.1)]) (λ(k_16:Nat)=>(λ(s_21:(List Placed)×Int)=>[(0,(dV (aI 0) 2 s_21.1)),(1,(vI a_2)),(2,(vI b_3)),(3,(.fn 45 [])),(8,(vI s_10.2)),(9,(vI s_21.2))])) (λs=>cz a_2 s) o_24 nq_50 (s_10.1,s_10.2) hj_25 rfl (aK rfl) ?_ ?_
    ·rintro ⟨k_16,s_21⟩ hL_23
     dsimp only at hL_23
     cases k_16 with
     | zero=>cases hL_23
     | succ k_16 =>
      obtain ⟨c_,hc_22,hL_23⟩:=bind_some hL_23
      unfold cz at hc_22
      refine ak (ak ?_)
      obtain ⟨v_26,h_27,hc_22⟩:=bind_some hc_22
      refine aS [(0,(dV (aI 0) 2 s_21.1)),(1,(vI a_2)),(2,(vI b_3)),(3,(.fn 45 [])),(8,(vI s_10.2)),(9,(vI s_21.2)),(34,(vB v_26))] [((aI 0),gB 2 Placed.enc s_21.1)] ?_ ?_
      ·refine bC (aa (vI s_21.2) (aa (vI a_2) (aa (vB (decide (s_21.2>a_2))) ?_)))
       rcases aj h_27 with⟨hc_28,h_27⟩|⟨hc_28,h_27⟩
       ·refine aC rfl hc_28 wz (aJ (.fn 45 []) wa rfl (aJ (dV (aI 0) 2 s_21.1) wa rfl (aJ (vI s_21.2) wa rfl ?_)))
        obtain ⟨_,hi_29,h_27⟩:=bind_some h_27
        refine nG Ho rfl rfl (nu hi_29) (jM hi_29) wa ?_
        obtain ⟨e_30,hy_31,h_27⟩:=bind_some h_27
        refine oG 8 0 (.inr (by kernel_rfl)) (λ_ _ ag=>trivial) Er Ph rfl rfl hy_31 (.d (.agg (Placed.enc e_30))) rfl wa (aJ (dV (aI 0) 2 s_21.1) wa rfl (aJ (vI s_21.2) wa rfl (aJ (vI (w64 (s_21.2-1))) wa rfl ?_)))
        obtain ⟨_,hi_32,h_27⟩:=bind_some h_27
        refine nG Ho rfl rfl (nu hi_32) (jM hi_32) wa ?_
        obtain ⟨e_33,hy_34,h_27⟩:=bind_some h_27
        refine oG 13 0 (.inr (by kernel_rfl)) (λ_ _ ag=>⟨.inl ⟨rfl,rfl⟩,trivial⟩) Er Ph rfl rfl hy_34 (.d (.agg (Placed.enc e_33))) rfl wa ?_
        obtain ⟨r_35,hr_36,h_27⟩:=bind_some h_27
        refine aB (xq hr_36) rfl hb45 rfl rfl rfl rfl wa (aJ (vB (decide (r_35<0))) wa rfl (aa (vB (decide (r_35<0))) (ah ?_)))
        obtain rfl:=ae h_27
        exact cu
       ·refine aC rfl hc_28 wz (af (af (af (af (af (af (af (af (af (af (af (af (aa (vB false) (ah ?_))))))))))))))
        obtain rfl:=ae h_27
        exact cu
      ·rintro ⟨⟩ _ sl_ H_ hp_ hq_
       refine aR _ hp_ hq_ ?_
       rcases aj hc_22 with⟨hc_37,hc_22⟩|⟨hc_37,hc_22⟩
       ·refine aA rfl hc_37 (av (ak (aQ (bC (aa (dV (aI 0) 2 s_21.1) (aa (vI s_21.2) (aa (dV (aI 0) 2 s_21.1) (aa (vI s_21.2) (aa (vI (w64 (s_21.2-1))) (aa (dV (aI 0) 2 s_21.1) (aa (vI s_21.2) (aa (vI (w64 (s_21.2-1))) ?_))))))))))))
        obtain ⟨_,hi_38,hc_22⟩:=bind_some hc_22
        refine nG Ho rfl rfl (nu hi_38) (jM hi_38) wz ?_
        obtain ⟨e_39,hy_40,hc_22⟩:=bind_some hc_22
        refine oG 9 0 (.inr (by kernel_rfl)) (λ_ _ ag=>trivial) Er Ph rfl rfl hy_40 (.d (.agg (Placed.enc e_39))) rfl wz (aa (dV (aI 0) 2 s_21.1) (aa (vI s_21.2) ?_))
        obtain ⟨_,hi_41,hc_22⟩:=bind_some hc_22
        refine nG Ho rfl rfl (nu hi_41) (jM hi_41) wz ?_
        obtain ⟨e_42,hy_43,hc_22⟩:=bind_some hc_22
        refine oG 13 0 (.inr (by kernel_rfl)) (λ_ _ ag=>⟨.inl ⟨rfl,rfl⟩,trivial⟩) Er Ph rfl rfl hy_43 (.d (.agg (Placed.enc e_42))) rfl wz ?_
        obtain ⟨_,hi_44,hc_22⟩:=bind_some hc_22
        refine nG Ho rfl rfl (nu hi_44) (jM hi_44) wz ?_
        obtain ⟨e_45,hy_46,hc_22⟩:=bind_some hc_22
        refine zQ 15 (.inr (by kernel_rfl)) (λ_ _ ag=>⟨.inr (.inr (by kernel_rfl)),⟨.inr (.inr (by kernel_rfl)),trivial⟩⟩) 0 Er rfl rfl hy_46 e_39 rfl wz (fI (v':=(dV (aI 0) 2 (s_21.1.set (0+(s_21.2).toNat) e_39))) 0 rfl (eX (by simp)) (fI (v':=(dV (aI 0) 2 (s_21.1.set (0+(s_21.2).toNat) e_39))) 37 rfl (eX (by simp)) (fI (v':=(dV (aI 0) 2 (s_21.1.set (0+(s_21.2).toNat) e_39))) 39 rfl (eX (by simp)) (fI (v':=(dV (aI 0) 2 (s_21.1.set (0+(s_21.2).toNat) e_39))) 42 rfl (eX (by simp)) (fI (v':=(dV (aI 0) 2 (s_21.1.set (0+(s_21.2).toNat) e_39))) 47 rfl (eX (by simp)) ?_)))))
        obtain ⟨_,hi_47,hc_22⟩:=bind_some hc_22
        refine nG Ho rfl rfl (nu hi_47) (jM hi_47) wz ?_
        obtain ⟨e_48,hy_49,hc_22⟩:=bind_some hc_22
        refine zQ 17 (.inr (by kernel_rfl)) (λ_ _ ag=>⟨.inr (.inr (by kernel_rfl)),⟨.inr (.inr (by kernel_rfl)),⟨.inr (.inr (by kernel_rfl)),trivial⟩⟩⟩) 0 Er rfl rfl hy_49 e_42 rfl wz (fI (v':=(dV (aI 0) 2 ((s_21.1.set (0+(s_21.2).toNat) e_39).set (0+((w64 (s_21.2-1))).toNat) e_42))) 0 rfl (eX (by simp)) (fI (v':=(dV (aI 0) 2 ((s_21.1.set (0+(s_21.2).toNat) e_39).set (0+((w64 (s_21.2-1))).toNat) e_42))) 37 rfl (eX (by simp)) (fI (v':=(dV (aI 0) 2 ((s_21.1.set (0+(s_21.2).toNat) e_39).set (0+((w64 (s_21.2-1))).toNat) e_42))) 39 rfl (eX (by simp)) (fI (v':=(dV (aI 0) 2 ((s_21.1.set (0+(s_21.2).toNat) e_39).set (0+((w64 (s_21.2-1))).toNat) e_42))) 42 rfl (eX (by simp)) (fI (v':=(dV (aI 0) 2 ((s_21.1.set (0+(s_21.2).toNat) e_39).set (0+((w64 (s_21.2-1))).toNat) e_42))) 47 rfl (eX (by simp)) (ah (au (aa (vI s_21.2) (aa (vI (w64 (s_21.2-1))) (aa (vI (w64 (s_21.2-1))) (ah ?_)))))))))))
        obtain rfl:=ae hc_22
        exact aZ (k_16,(((s_21.1.set (0+(s_21.2).toNat) e_39).set (0+((w64 (s_21.2-1))).toNat) e_42),(w64 (s_21.2-1)))) hL_23 (ls_ _) rfl (aK rfl)
       ·refine ax rfl hc_37 (bf ?_)
        obtain rfl:=ae hc_22
        obtain rfl:=ae hL_23
        exact aY ((s_21.1,s_21.2)) rfl rfl (aK rfl)
    ·rintro s_21 ho_ sl_ H_ hp_ hq_
     subst ho_
     refine aR _ hp_ hq_ (au (aa (vI s_10.2) (aa (vI (w64 (s_10.2+1))) (aa (vI (w64 (s_10.2+1))) (ah ?_)))))
     obtain rfl:=ae hc_11
     exact aZ (k_5,(s_21.1,(w64 (s_10.2+1)))) hL_12 (ls_ _) rfl (aK rfl)
   ·refine ax rfl hc_15 (bf ?_)
    obtain rfl:=ae hc_11
    obtain rfl:=ae hL_12
    exact aY ((s_10.1,s_10.2)) rfl rfl (aK rfl)
 ·rintro s_10 ho_ sl_ H_ hp_ hq_
  subst ho_
  show ut _ _ _ _ _ _ _ _
  obtain rfl:=ae hF
  exact BM (H0:=([((aI 0),gB 2 Placed.enc s_10.1)]:Hp)) (sl':=envS []) hq_ (qb (bs:=([]:List Box)) (os:=([]:List Box)) (xs:=data_1) (o:=gB 2 Placed.enc s_10.1) (.inl rfl) [] trivial rfl rfl rfl rfl rfl (by kernel_rfl) pI rfl)
theorem kU {data_1:(List Placed)} {n_2:Int} {r:(List Placed)} (hF:cZ data_1 n_2=some r) :
  FnM Tryz.prog 66 [(dV (aI 0) 2 data_1),(vI n_2),(.fn 45 [])] (([]:List Box)++gI 2 Placed.enc data_1) (.tup []) (([]:List Box).map some++gT data_1 (gB 2 Placed.enc r)):=by
 refine FnM.of_wHv ⟨Tryz.prog,63,[],[]⟩ rfl Tryz.func66 rfl rfl (lb_ rfl) (by kernel_rfl) ?_
 unfold cZ at hF
 refine ai (aa (vI 20) (ah (ai (aa (vI 20) (aa (vI 0) (aa (vI 20) (ah (ak ?_))))))))
 obtain ⟨o_12,hj_13,hF⟩:=bind_some hF
 obtain ⟨nq_48,hj_13⟩:=dh hj_13
 refine fQ (λ(s_9:(List Placed)×Int×Int)=>[(0,(dV (aI 0) 2 s_9.1)),(1,(vI n_2)),(2,(.fn 45 [])),(6,(vI 20)),(7,(vI s_9.2.1))]) (λ(s_9:(List Placed)×Int×Int)=>[((aI 0),gB 2 Placed.enc s_9.1)]) (λ(k_4:Nat)=>(λ(s_9:(List Placed)×Int×Int)=>[(0,(dV (aI 0) 2 s_9.1)),(1,(vI n_2)),(2,(.fn 45 [])),(6,(vI 20)),(7,(vI s_9.2.1)),(8,(vI s_9.2.2))])) (λs=>dJ n_2 s) o_12 nq_48 (data_1,0,20) hj_13 rfl (aK rfl) ?_ ?_
 ·rintro ⟨k_4,s_9⟩ hL_11
  dsimp only at hL_11
  cases k_4 with
  | zero=>cases hL_11
  | succ k_4 =>
   obtain ⟨c_,hc_10,hL_11⟩:=bind_some hL_11
   unfold dJ at hc_10
   refine ak (ai (aa (vI s_9.2.2) (aa (vI n_2) (aa (vB (decide (s_9.2.2<=n_2))) (ah ?_)))))
   rcases aj hc_10 with⟨hc_14,hc_10⟩|⟨hc_14,hc_10⟩
   ·refine aA rfl hc_14 (av (aQ (ai (aa (dV (aI 0) 2 s_9.1) (aa (vI s_9.2.1) (aa (vI s_9.2.2) (aa (.fn 45 []) ?_)))))))
    obtain ⟨r_15,hr_16,hc_10⟩:=bind_some hc_10
    obtain ⟨_,hs_17,hc_10⟩:=bind_some hc_10
    replace hs_17:=mF hs_17
    refine nV 0 [] 0 0 il ft (eQ hr_16) rfl hb111 rfl rfl rfl (by kernel_rfl) rfl (.inr (.inl rfl)) rfl (by kernel_rfl) (by kernel_rfl) (by kernel_rfl) (by kernel_rfl) rfl (by decide) (by kernel_rfl) pI (xC hs_17) wz ([((aI 0),gB 2 Placed.enc r_15)]:Hp) (by kernel_rfl) (fI (v':=(dV (aI 0) 2 r_15)) 0 rfl (eX hs_17.symm) (fI (v':=(dV (aI 0) 2 r_15)) 14 rfl (eX hs_17.symm) (ah (ai (aa (vI s_9.2.2) (aa (vI s_9.2.2) (ah (au (aa (vI s_9.2.2) (aa (vI 20) (aa (vI (w64 (s_9.2.2+20))) (aa (vI (w64 (s_9.2.2+20))) (ah ?_)))))))))))))
    obtain rfl:=ae hc_10
    exact aZ (k_4,(r_15,s_9.2.2,(w64 (s_9.2.2+20)))) hL_11 (ls_ _) rfl (aK rfl)
   ·refine ax rfl hc_14 (bf ?_)
    obtain rfl:=ae hc_10
    obtain rfl:=ae hL_11
    exact aY ((s_9.1,s_9.2.1,s_9.2.2)) rfl rfl (aK rfl)
 ·rintro s_9 ho_ sl_ H_ hp_ hq_
  subst ho_
  refine aR _ hp_ hq_ (ai (aa (dV (aI 0) 2 s_9.1) (aa (vI s_9.2.1) (aa (vI n_2) (aa (.fn 45 []) ?_)))))
  obtain ⟨r_18,hr_19,hF⟩:=bind_some hF
  obtain ⟨_,hs_20,hF⟩:=bind_some hF
  replace hs_20:=mF hs_20
  refine nV 0 [] 0 0 il ft (eQ hr_19) rfl hb111 rfl rfl rfl (by kernel_rfl) rfl (.inr (.inl rfl)) rfl (by kernel_rfl) (by kernel_rfl) (by kernel_rfl) (by kernel_rfl) rfl (by decide) (by kernel_rfl) pI (xC hs_20) wz ([((aI 0),gB 2 Placed.enc r_18)]:Hp) (by kernel_rfl) (fI (v':=(dV (aI 0) 2 r_18)) 0 rfl (eX hs_20.symm) (fI (v':=(dV (aI 0) 2 r_18)) 23 rfl (eX hs_20.symm) (ah ?_)))
  obtain ⟨o_29,hj_30,hF⟩:=bind_some hF
  obtain ⟨nq_47,hj_30⟩:=dh hj_30
  refine fQ (λ(s_26:Int)=>[]) (λ(s_26:Int)=>[((aI 0),gB 2 Placed.enc r_18)]) (λ(k_21:Nat)=>(λ(s_26:Int)=>[(0,(dV (aI 0) 2 r_18)),(1,(vI n_2)),(2,(.fn 45 [])),(6,(vI s_26))])) (λs=>dH n_2 s) o_29 nq_47 20 hj_30 rfl (aK rfl) ?_ ?_
  ·rintro ⟨k_21,s_26⟩ hL_28
   dsimp only at hL_28
   cases k_21 with
   | zero=>cases hL_28
   | succ k_21 =>
    obtain ⟨c_,hc_27,hL_28⟩:=bind_some hL_28
    unfold dH at hc_27
    refine ak (ai (aa (vI s_26) (aa (vI n_2) (aa (vB (decide (s_26<n_2))) (ah ?_)))))
    rcases aj hc_27 with⟨hc_31,hc_27⟩|⟨hc_31,hc_27⟩
    ·refine aA rfl hc_31 (av (aQ (ai (aa (vI s_26) (aa (vI (w64 (2*s_26))) (aa (vI 0) (aa (vI (w64 (2*s_26))) (ah (ak ?_)))))))))
     obtain ⟨o_40,hj_41,hc_27⟩:=bind_some hc_27
     obtain ⟨nq_46,hj_41⟩:=dh hj_41
     refine fQ (λ(s_37:Unit)=>[(0,(dV (aI 0) 2 r_18)),(1,(vI n_2)),(2,(.fn 45 [])),(6,(vI s_26)),(7,(vI 0))]) (λ(s_37:Unit)=>[((aI 0),gB 2 Placed.enc r_18)]) (λ(k_32:Nat)=>(λ(s_37:Unit)=>[(0,(dV (aI 0) 2 r_18)),(1,(vI n_2)),(2,(.fn 45 [])),(6,(vI s_26)),(7,(vI 0)),(8,(vI (w64 (2*s_26))))])) (λs=>dK s_26 n_2 s) o_40 nq_46 () hj_41 rfl (aK rfl) ?_ ?_
     ·rintro ⟨k_32,s_37⟩ hL_39
      dsimp only at hL_39
      cases k_32 with
      | zero=>cases hL_39
      | succ k_32 =>
       obtain ⟨c_,hc_38,hL_39⟩:=bind_some hL_39
       unfold dK at hc_38
       refine ak (ai (aa (vI (w64 (2*s_26))) (aa (vI n_2) (aa (vB (decide ((w64 (2*s_26))<=n_2))) (ah ?_)))))
       rcases aj hc_38 with⟨hc_42,hc_38⟩|⟨hc_42,hc_38⟩
       ·refine aA rfl hc_42 (av (aQ (ai (aa (dV (aI 0) 2 r_18) (aa (vI 0) (aa (vI 0) (aa (vI s_26) (aa (vI (w64 (0+s_26))) (aa (vI (w64 (2*s_26))) (aa (.fn 45 []) ?_))))))))))
        cases hc_38
       ·refine ax rfl hc_42 (bf ?_)
        obtain rfl:=ae hc_38
        obtain rfl:=ae hL_39
        exact aY (()) rfl rfl (aK rfl)
     ·rintro s_37 ho_ sl_ H_ hp_ hq_
      subst ho_
      refine aR _ hp_ hq_ (ak (ai (aa (vI 0) (aa (vI s_26) (aa (vI (w64 (0+s_26))) (aa (vI (w64 (0+s_26))) (ah (ai (aa (vI (w64 (0+s_26))) (aa (vI n_2) (aa (vB (decide ((w64 (0+s_26))<n_2))) (ah ?_))))))))))))
      obtain ⟨v_43,h_44,hc_27⟩:=bind_some hc_27
      refine aS [(0,(dV (aI 0) 2 r_18)),(1,(vI n_2)),(2,(.fn 45 [])),(6,(vI s_26))] [((aI 0),gB 2 Placed.enc r_18)] ?_ ?_
      ·rcases aj h_44 with⟨hc_45,h_44⟩|⟨hc_45,h_44⟩
       ·refine aA rfl hc_45 (au (aa (dV (aI 0) 2 r_18) (aa (vI 0) (aa (vI (w64 (0+s_26))) (aa (vI n_2) (aa (.fn 45 []) ?_))))))
        cases h_44
       ·refine ax rfl hc_45 (av ?_)
        obtain rfl:=ae h_44
        exact cu
      ·rintro ⟨⟩ _ sl_ H_ hp_ hq_
       refine aR _ hp_ hq_ (au (aa (vI s_26) (aa (vI (w64 (s_26*2))) (aa (vI (w64 (s_26*2))) (ah ?_)))))
       obtain rfl:=ae hc_27
       exact aZ (k_21,(w64 (s_26*2))) hL_28 (ls_ _) rfl (aK rfl)
    ·refine ax rfl hc_31 (bf ?_)
     obtain rfl:=ae hc_27
     obtain rfl:=ae hL_28
     exact aY (s_26) rfl rfl (aK rfl)
  ·rintro s_26 ho_ sl_ H_ hp_ hq_
   subst ho_
   show ut _ _ _ _ _ _ _ _
   obtain rfl:=ae hF
   exact BM (H0:=([((aI 0),gB 2 Placed.enc r_18)]:Hp)) (sl':=envS []) hq_ (qb (bs:=([]:List Box)) (os:=([]:List Box)) (xs:=data_1) (o:=gB 2 Placed.enc r_18) (.inl rfl) [] trivial rfl rfl rfl rfl rfl (by kernel_rfl) pI rfl)
theorem ig {x_1:(List Placed)} {r:(List Placed)} (hF:bu x_1=some r) :
  FnM Tryz.prog 44 [(dV (aI 0) 2 x_1),(.fn 45 [])] (([]:List Box)++gI 2 Placed.enc x_1) (.tup []) (([]:List Box).map some++gT x_1 (gB 2 Placed.enc r)):=by
 refine FnM.of_wHv ⟨Tryz.prog,9,[],[]⟩ rfl Tryz.func44 rfl rfl (lb_ rfl) (by kernel_rfl) ?_
 unfold bu at hF
 refine au (aa (dV (aI 0) 2 x_1) (aa (dV (aI 0) 2 x_1) (FV un56 rfl wz (aa (.fn 45 []) ?_))))
 obtain ⟨r_3,hr_4,hF⟩:=bind_some hF
 obtain ⟨_,hs_5,hF⟩:=bind_some hF
 replace hs_5:=mF hs_5
 refine nV 0 [] 0 0 il ft (kU hr_4) rfl hb66 rfl rfl rfl (by kernel_rfl) rfl (.inr (.inl rfl)) rfl (by kernel_rfl) (by kernel_rfl) (by kernel_rfl) (by kernel_rfl) rfl (by decide) (by kernel_rfl) pI (xC hs_5) wz ([((aI 0),gB 2 Placed.enc r_3)]:Hp) (by kernel_rfl) (fI (v':=(dV (aI 0) 2 r_3)) 0 rfl (eX hs_5.symm) (fI (v':=(dV (aI 0) 2 r_3)) 4 rfl (eX hs_5.symm) (fI (v':=(dV (aI 0) 2 r_3)) 5 rfl (eX hs_5.symm) (ah ?_))))
 show ut _ _ _ _ _ _ _ _
 obtain rfl:=ae hF
 exact qb (bs:=([]:List Box)) (os:=([]:List Box)) (xs:=x_1) (o:=gB 2 Placed.enc r_3) (.inl rfl) [] trivial rfl rfl rfl rfl rfl (by kernel_rfl) pI rfl
theorem yX {l_1:(List Log_)} {fromv_2:Int} {tov_3:Int} {b_4:(List Beat)} {r:(List Placed)×(List Int)} (hF:lK l_1 fromv_2 tov_3 b_4=some r) :
  FnM Tryz.prog 17 [(vL Log_.enc l_1),(vI fromv_2),(vI tov_3),(vL Beat.enc b_4)] [] (.tup [(vL Placed.enc r.1),(vL eI r.2)]) []:=by
 refine FnM.of_wH ⟨Tryz.prog,68,[],[]⟩ rfl Tryz.func17 rfl rfl (lb_ rfl) (by kernel_rfl) ?_
 unfold lK at hF
 refine ai (aa .nil (aa .nil (ah (ai (aa (vL Beat.enc b_4) (aa (vL Log_.enc l_1) (aa (vI fromv_2) ?_)))))))
 obtain ⟨y_5,hy_6,hF⟩:=bind_some hF
 refine dB GR rfl rfl hy_6 rfl wz (kv vC rfl [.str y_5.Player,.str y_5.Item,.int .i64 y_5.No,.int .i64 y_5.Clock,.int .i64 y_5.Long,.str y_5.Sum] rfl rfl wz (bH sz9 ag9 rfl (vS y_5.Player) rfl wz ?_))
 obtain ⟨r_7,hr_8,hF⟩:=bind_some hF
 refine aB (sI hr_8) rfl hb42 rfl rfl rfl rfl wz (aa (vL Beat_.enc r_7) (ah (ai (aa .nil (ah (ai (aa .nil (ah (ak (ai (aa (vI fromv_2) (aa (vI fromv_2) (ah (mh (λn_15=>mh (λn_16 => ?_))))))))))))))))
 obtain ⟨o_23,hj_24,hF⟩:=bind_some hF
 obtain ⟨nq_50,hj_24⟩:=dh hj_24
 refine yQ (σ:=(List Placed)×(List Int)×Int) (N:=Nm×Nm) (λp=>(λ(s_14:(List Placed)×(List Int)×Int) (n_19:Nm) (n_20:Nm)=>([(11,(gV n_19 2 s_14.1)),(12,(gV n_20 1 s_14.2.1))]:SL_)) p.1 p.2.1 p.2.2) (λp=>(λ(s_14:(List Placed)×(List Int)×Int) (n_19:Nm) (n_20:Nm)=>([(n_19,gB 2 Placed.enc s_14.1),(n_20,gB 1 eI s_14.2.1)]:Hp)) p.1 p.2.1 p.2.2) (λ(k_9:Nat)=>(λp=>(λ(s_14:(List Placed)×(List Int)×Int) (n_19:Nm) (n_20:Nm)=>([(0,(vL Log_.enc l_1)),(2,(vI tov_3)),(10,(vL Beat_.enc r_7)),(11,(gV n_19 2 s_14.1)),(12,(gV n_20 1 s_14.2.1)),(13,(vI s_14.2.2))]:SL_)) p.1 p.2.1 p.2.2)) (λs=>eD tov_3 l_1 r_7 s) o_23 nq_50 ((([]:List Placed),([]:List Int),fromv_2),n_15,n_16) hj_24 rfl (aK rfl) ?_ ?_
 ·rintro ⟨k_9,s_14,n_19,n_20⟩ hL_22
  dsimp only at hL_22
  cases k_9 with
  | zero=>cases hL_22
  | succ k_9 =>
   obtain ⟨c_,hc_21,hL_22⟩:=bind_some hL_22
   unfold eD at hc_21
   refine ak (ai (aa (vI s_14.2.2) (aa (vI tov_3) (aa (vB (decide (s_14.2.2<tov_3))) (ah ?_)))))
   rcases aj hc_21 with⟨hc_25,hc_21⟩|⟨hc_25,hc_21⟩
   ·refine aA rfl hc_25 (av (ak (aQ (ai (aa (vL Beat_.enc r_7) (aa (vL Log_.enc l_1) (aa (vI s_14.2.2) ?_)))))))
    obtain ⟨y_26,hy_27,hc_21⟩:=bind_some hc_21
    refine dB GR rfl rfl hy_27 rfl wz (kv Hg rfl [.int .i64 y_26.Clock,.int .i64 y_26.Long,.str y_26.Sum] rfl rfl wz (bH sz3 ag3 rfl (vI y_26.Clock) rfl wz ?_))
    obtain ⟨r_28,hr_29,hc_21⟩:=bind_some hc_21
    refine aB (uU hr_29) rfl hb43 rfl rfl rfl rfl wz (aa (.tup [(vI r_28.1),(vI r_28.2)]) (aa (vI r_28.1) (aa (vI r_28.2) (aa (vI r_28.1) (aa (vI r_28.2) (ah (ai (aa (vI r_28.2) (ah (aQ (ai (aa (vB (r_28.2==0)) (aa (vB (r_28.2==0)) (ah ?_))))))))))))))
    obtain ⟨v_30,h_31,hc_21⟩:=bind_some hc_21
    refine jU (β:=Nm×Nm) (λp=>(λ(n_32:Nm) (n_33:Nm)=>([(0,(vL Log_.enc l_1)),(2,(vI tov_3)),(10,(vL Beat_.enc r_7)),(11,(gV n_32 2 v_30.1)),(12,(gV n_33 1 v_30.2)),(13,(vI s_14.2.2))]:SL_)) p.1 p.2) (λp=>(λ(n_32:Nm) (n_33:Nm)=>([(n_32,gB 2 Placed.enc v_30.1),(n_33,gB 1 eI v_30.2)]:Hp)) p.1 p.2) (λ_=>True) ?_ ?_
    ·rcases aj h_31 with⟨hc_34,h_31⟩|⟨hc_34,h_31⟩
     ·refine aA rfl hc_34 (au (aa (gV n_19 2 s_14.1) (aa (vI s_14.2.2) (aa (vI r_28.1) (aJ (.d (.agg (Placed.enc (⟨s_14.2.2,r_28.1⟩:Placed)))) wz (by kernel_rfl) (fq (([(⟨s_14.2.2,r_28.1⟩:Placed)]:List Placed).map Placed.enc) Ho ez56 rfl rfl rfl rfl rfl wz ?_))))))
      obtain ⟨a_35,hz_36,h_31⟩:=bind_some h_31
      refine jL 0 il ft (i:=0) el56 el56 Er z60 rfl (by decide) by60 (by decide) (λ_=>rfl) rfl rfl rfl hz_36 wz (λn_37=>aa (gV n_37 2 a_35) (ah ?_))
      obtain rfl:=ae h_31
      exact aY (n_37,n_20) trivial rfl (aK rfl)
     ·refine ax rfl hc_34 (ai (aa (vB (r_28.2==8)) (aa (vB (r_28.2==8)) (ah ?_))))
      rcases aj h_31 with⟨hc_38,h_31⟩|⟨hc_38,h_31⟩
      ·refine aA rfl hc_38 (au (aa (gV n_19 2 s_14.1) (aa (vI s_14.2.2) (aa (vL Log_.enc l_1) (aa (vI s_14.2.2) ?_)))))
       obtain ⟨y_39,hy_40,h_31⟩:=bind_some h_31
       refine dB GR rfl rfl hy_40 rfl wz (kv Hg rfl [.int .i64 y_39.Clock,.int .i64 y_39.Long,.str y_39.Sum] rfl rfl wz (bH sz3 ag3 rfl (vI y_39.Clock) rfl wz (aJ (.d (.agg (Placed.enc (⟨s_14.2.2,y_39.Clock⟩:Placed)))) wz (by kernel_rfl) (fq (([(⟨s_14.2.2,y_39.Clock⟩:Placed)]:List Placed).map Placed.enc) Ho ez56 rfl rfl rfl rfl rfl wz ?_))))
       obtain ⟨a_41,hz_42,h_31⟩:=bind_some h_31
       refine jL 0 il ft (i:=0) el56 el56 Er z60 rfl (by decide) by60 (by decide) (λ_=>rfl) rfl rfl rfl hz_42 wz (λn_43=>aa (gV n_43 2 a_41) (ah ?_))
       obtain rfl:=ae h_31
       exact aY (n_43,n_20) trivial rfl (aK rfl)
      ·refine ax rfl hc_38 (au (aa (gV n_20 1 s_14.2.1) (aa (vI s_14.2.2) (fq (([s_14.2.2]:List Int).map eI) mQ x9 rfl rfl rfl rfl rfl wz ?_))))
       obtain ⟨a_44,hz_45,h_31⟩:=bind_some h_31
       refine jL 0 il ft (i:=1) GY GY sz3 z3 rfl (by decide) by3 (by decide) (λ_=>rfl) rfl rfl rfl hz_45 wz (λn_46=>aa (gV n_46 1 a_44) (ah ?_))
       obtain rfl:=ae h_31
       exact aY (n_19,n_46) trivial rfl (aK rfl)
    ·rintro ⟨n_32,n_33⟩ _ sl_ H_ hp_ hq_
     refine aR _ hp_ hq_ (au (aa (vI s_14.2.2) (aa (vI (w64 (s_14.2.2+1))) (aa (vI (w64 (s_14.2.2+1))) (ah ?_)))))
     obtain rfl:=ae hc_21
     exact aZ (k_9,(v_30.1,v_30.2,(w64 (s_14.2.2+1))),n_32,n_33) hL_22 (ls_ _) rfl (aK rfl)
   ·refine ax rfl hc_25 (bf ?_)
    obtain rfl:=ae hc_21
    obtain rfl:=ae hL_22
    exact aY ((s_14.1,s_14.2.1,s_14.2.2),n_19,n_20) rfl rfl (aK rfl)
 ·rintro ⟨s_14,n_19,n_20⟩ ho_ sl_ H_ hp_ hq_
  subst ho_
  refine aR _ hp_ hq_ (ai (aa (gV n_19 2 s_14.1) ?_))
  obtain ⟨r_47,hr_48,hF⟩:=bind_some hF
  obtain ⟨_,hs_49,hF⟩:=bind_some hF
  replace hs_49:=mF hs_49
  refine nV 0 [] 0 0 il ft (ig hr_48) rfl hb44 rfl rfl rfl (by kernel_rfl) rfl (.inl rfl) rfl (by kernel_rfl) (by kernel_rfl) (by kernel_rfl) (by kernel_rfl) rfl (by decide) (by kernel_rfl) pI (xC hs_49) wz ([(n_19,gB 2 Placed.enc r_47),(n_20,gB 1 eI s_14.2.1)]:Hp) (by kernel_rfl) (fI (v':=(gV n_19 2 r_47)) 11 rfl (mg hs_49.symm) (fI (v':=(gV n_19 2 r_47)) 64 rfl (mg hs_49.symm) (ah (ai (aa (gV n_19 2 r_47) (aa (gV n_20 1 s_14.2.1) (aa (gV n_19 2 r_47) (aa (gV n_20 1 s_14.2.1) (ah (gJ 0 rfl (bZ 8 0 rfl rfl (bZ 11 0 rfl rfl (bZ 64 0 rfl rfl (bZ 66 0 rfl rfl (gJ 1 rfl (bZ 9 1 rfl rfl (bZ 12 1 rfl rfl (bZ 67 1 rfl rfl ?_))))))))))))))))))
  obtain rfl:=ae hF
  exact ay (aM [(vL Placed.enc r_47),(vL eI s_14.2.1)] ⟨rfl,⟨rfl,trivial⟩⟩)
theorem mf {x r:(List Int)} (hF:bS x=some r) :
  FnM Tryz.prog 19 [(dV (aI 0) 1 x)] (([]:List Box)++gI 1 eI x) (.tup []) (([]:List Box).map some++gT x (gB 1 eI r)) :=
 PG Tryz.slices_Sort_int Tryz.slices_Sort_int_none hF
theorem Cw {l_1:(List Log_)} {b_2:(List Beat)} {r:(List Play)×(List Int)×Int} (hF:pK l_1 b_2=some r) :
  FnM Tryz.prog 6 [(vL Log_.enc l_1),(vL Beat.enc b_2)] [] (.tup [(vL Play.enc r.1),(vL eI r.2.1),(vI r.2.2)]) []:=by
 refine FnM.of_wH ⟨Tryz.prog,118,[],[]⟩ rfl Tryz.func6 rfl rfl (lb_ rfl) (by kernel_rfl) ?_
 unfold pK at hF
 refine ai (aa .nil (aa .nil (aa (vI 0) (ah (ak (ai (aa (vL Log_.enc l_1) ?_)))))))
 obtain ⟨r_3,hr_4,hF⟩:=bind_some hF
 refine aB (yx hr_4) rfl hb15 rfl rfl rfl rfl wz (aa (vI r_3) (ah (ai (aa (vI r_3) (aa (vB (r_3 != 0)) (ah ?_))))))
 rcases aj hF with⟨hc_5,hF⟩|⟨hc_5,hF⟩
 ·refine aA rfl hc_5 (ai (aa (vI r_3) (aa .nil (aa .nil (aa (vI r_3) (ah ?_))))))
  obtain rfl:=ae hF
  exact ay (aM [.nil,.nil,(vI r_3)] ⟨rfl,⟨rfl,⟨rfl,trivial⟩⟩⟩)
 ·refine ax rfl hc_5 (av (ak (ai (aa (vL Beat.enc b_2) ?_))))
  obtain ⟨r_6,hr_7,hF⟩:=bind_some hF
  refine aB (qi hr_7) rfl hb16 rfl rfl rfl rfl wz (aa (vI r_6) (ah (ai (aa (vI r_6) (aa (vB (r_6 != 0)) (ah ?_))))))
  rcases aj hF with⟨hc_8,hF⟩|⟨hc_8,hF⟩
  ·refine aA rfl hc_8 (ai (aa (vI r_6) (aa .nil (aa .nil (aa (vI r_6) (ah ?_))))))
   obtain rfl:=ae hF
   exact ay (aM [.nil,.nil,(vI r_6)] ⟨rfl,⟨rfl,⟨rfl,trivial⟩⟩⟩)
  ·refine ax rfl hc_8 (av (ai (aa .nil (ah (ai (aa .nil (ah (ak (ai (aa (vI 0) (aa (vI 0) (ah (mh (λn_15=>mh (λn_16 => ?_)))))))))))))))
   obtain ⟨o_23,hj_24,hF⟩:=bind_some hF
   obtain ⟨nq_83,hj_24⟩:=dh hj_24
   refine yQ (σ:=(List Play)×(List Int)×Int) (N:=Nm×Nm) (λp=>(λ(s_14:(List Play)×(List Int)×Int) (n_19:Nm) (n_20:Nm)=>([(9,(gV n_19 4 s_14.1)),(10,(gV n_20 1 s_14.2.1))]:SL_)) p.1 p.2.1 p.2.2) (λp=>(λ(s_14:(List Play)×(List Int)×Int) (n_19:Nm) (n_20:Nm)=>([(n_19,gB 4 Play.enc s_14.1),(n_20,gB 1 eI s_14.2.1)]:Hp)) p.1 p.2.1 p.2.2) (λ(k_9:Nat)=>(λp=>(λ(s_14:(List Play)×(List Int)×Int) (n_19:Nm) (n_20:Nm)=>([(0,(vL Log_.enc l_1)),(1,(vL Beat.enc b_2)),(9,(gV n_19 4 s_14.1)),(10,(gV n_20 1 s_14.2.1)),(11,(vI s_14.2.2))]:SL_)) p.1 p.2.1 p.2.2)) (λs=>gH l_1 b_2 s) o_23 nq_83 ((([]:List Play),([]:List Int),0),n_15,n_16) hj_24 rfl (aK rfl) ?_ ?_
   ·rintro ⟨k_9,s_14,n_19,n_20⟩ hL_22
    dsimp only at hL_22
    cases k_9 with
    | zero=>cases hL_22
    | succ k_9 =>
     obtain ⟨c_,hc_21,hL_22⟩:=bind_some hL_22
     unfold gH at hc_21
     refine ak (ai (aa (vI s_14.2.2) (aa (vL Log_.enc l_1) (bN Pb rfl wz (aa (vB (decide (s_14.2.2<(l_1.length:Int)))) (ah ?_))))))
     rcases aj hc_21 with⟨hc_25,hc_21⟩|⟨hc_25,hc_21⟩
     ·refine aA rfl hc_25 (av (ak (aQ (ak (ai (aa (vI s_14.2.2) (aa (vI s_14.2.2) (ah ?_))))))))
      obtain ⟨o_34,hj_35,hc_21⟩:=bind_some hc_21
      obtain ⟨nq_79,hj_35⟩:=dh hj_35
      refine fQ (λ(s_31:Int)=>[(0,(vL Log_.enc l_1)),(1,(vL Beat.enc b_2)),(9,(gV n_19 4 s_14.1)),(10,(gV n_20 1 s_14.2.1)),(11,(vI s_14.2.2)),(12,(vI s_31))]) (λ(s_31:Int)=>[(n_19,gB 4 Play.enc s_14.1),(n_20,gB 1 eI s_14.2.1)]) (λ(k_26:Nat)=>(λ(s_31:Int)=>[(0,(vL Log_.enc l_1)),(1,(vL Beat.enc b_2)),(9,(gV n_19 4 s_14.1)),(10,(gV n_20 1 s_14.2.1)),(11,(vI s_14.2.2)),(12,(vI s_31))])) (λs=>gL l_1 s_14 s) o_34 nq_79 s_14.2.2 hj_35 rfl (aK rfl) ?_ ?_
      ·rintro ⟨k_26,s_31⟩ hL_33
       dsimp only at hL_33
       cases k_26 with
       | zero=>cases hL_33
       | succ k_26 =>
        obtain ⟨c_,hc_32,hL_33⟩:=bind_some hL_33
        unfold gL at hc_32
        refine ak (ak ?_)
        obtain ⟨v_36,h_37,hc_32⟩:=bind_some hc_32
        refine aS [(0,(vL Log_.enc l_1)),(1,(vL Beat.enc b_2)),(9,(gV n_19 4 s_14.1)),(10,(gV n_20 1 s_14.2.1)),(11,(vI s_14.2.2)),(12,(vI s_31)),(53,(vB v_36))] [(n_19,gB 4 Play.enc s_14.1),(n_20,gB 1 eI s_14.2.1)] ?_ ?_
        ·refine bC (aa (vI s_31) (aa (vL Log_.enc l_1) (bN Pb rfl wz (aa (vB (decide (s_31<(l_1.length:Int)))) ?_))))
         rcases aj h_37 with⟨hc_38,h_37⟩|⟨hc_38,h_37⟩
         ·refine aC rfl hc_38 wz (aJ (vL Log_.enc l_1) wa rfl (aJ (vI s_31) wa rfl ?_))
          obtain ⟨y_39,hy_40,h_37⟩:=bind_some h_37
          refine dB GR rfl rfl hy_40 rfl wa (kv vC rfl [.str y_39.Player,.str y_39.Item,.int .i64 y_39.No,.int .i64 y_39.Clock,.int .i64 y_39.Long,.str y_39.Sum] rfl rfl wa (bH sz9 ag9 rfl (vS y_39.Player) rfl wa (aJ (vL Log_.enc l_1) wa rfl (aJ (vI s_14.2.2) wa rfl ?_))))
          obtain ⟨y_41,hy_42,h_37⟩:=bind_some h_37
          refine dB GR rfl rfl hy_42 rfl wa (kv vC rfl [.str y_41.Player,.str y_41.Item,.int .i64 y_41.No,.int .i64 y_41.Clock,.int .i64 y_41.Long,.str y_41.Sum] rfl rfl wa (bH sz9 ag9 rfl (vS y_41.Player) rfl wa (aJ (vB (sEq y_39.Player y_41.Player)) wa rfl (aa (vB (sEq y_39.Player y_41.Player)) (ah ?_)))))
          obtain rfl:=ae h_37
          exact cu
         ·refine aC rfl hc_38 wz (af (af (af (af (af (af (af (af (af (af (af (aa (vB false) (ah ?_)))))))))))))
          obtain rfl:=ae h_37
          exact cu
        ·rintro ⟨⟩ _ sl_ H_ hp_ hq_
         refine aR _ hp_ hq_ ?_
         rcases aj hc_32 with⟨hc_43,hc_32⟩|⟨hc_43,hc_32⟩
         ·refine aA rfl hc_43 (av (aQ (au (aa (vI s_31) (aa (vI (w64 (s_31+1))) (aa (vI (w64 (s_31+1))) (ah ?_)))))))
          obtain rfl:=ae hc_32
          exact aZ (k_26,(w64 (s_31+1))) hL_33 (ls_ _) rfl (aK rfl)
         ·refine ax rfl hc_43 (bf ?_)
          obtain rfl:=ae hc_32
          obtain rfl:=ae hL_33
          exact aY (s_31) rfl rfl (aK rfl)
      ·rintro s_31 ho_ sl_ H_ hp_ hq_
       subst ho_
       refine aR _ hp_ hq_ (ai (aa (vL Log_.enc l_1) (aa (vI s_14.2.2) (aa (vI s_31) (aa (vL Beat.enc b_2) ?_)))))
       obtain ⟨r_44,hr_45,hc_21⟩:=bind_some hc_21
       refine aB (yX hr_45) rfl hb17 rfl rfl rfl rfl wz (aa (.tup [(vL Placed.enc r_44.1),(vL eI r_44.2)]) (aa (vL Placed.enc r_44.1) (aa (vL eI r_44.2) (aa (vL Placed.enc r_44.1) (aa (vL eI r_44.2) (ah (ai (aa (gV n_20 1 s_14.2.1) (aa (vL eI r_44.2) ?_)))))))))
       obtain ⟨a_46,hz_47,hc_21⟩:=bind_some hc_21
       refine jL 0 il ft (i:=1) GY GY sz3 z3 rfl (by decide) by3 (by decide) (λ_=>rfl) rfl rfl rfl hz_47 wz (λn_48=>aa (gV n_48 1 a_46) (ah (ai (aa (vI 0) (ah (ai (aa (vL Placed.enc r_44.1) (bN un56 rfl wz (aa (vI 0) (ah ?_))))))))))
       obtain ⟨o_61,hj_62,hc_21⟩:=bind_some hc_21
       obtain ⟨hn_53,hj_62⟩:=bv hj_62
       refine iM (σ:=(List Play)×(List Int)×Int) (N:=Nm×Nm) (λp=>(λ(s_54:(List Play)×(List Int)×Int) (n_57:Nm) (n_58:Nm)=>([(0,(vL Log_.enc l_1)),(1,(vL Beat.enc b_2)),(9,(gV n_57 4 s_54.1)),(10,(gV n_58 1 s_54.2.1)),(12,(vI s_31))]:SL_)) p.1 p.2.1 p.2.2) (λp=>(λ(s_54:(List Play)×(List Int)×Int) (n_57:Nm) (n_58:Nm)=>([(n_57,gB 4 Play.enc s_54.1),(n_58,gB 1 eI s_54.2.1)]:Hp)) p.1 p.2.1 p.2.2) (λ(k_49:Nat)=>(λp=>(λ(s_54:(List Play)×(List Int)×Int) (n_57:Nm) (n_58:Nm)=>([(0,(vL Log_.enc l_1)),(1,(vL Beat.enc b_2)),(9,(gV n_57 4 s_54.1)),(10,(gV n_58 1 s_54.2.1)),(12,(vI s_31)),(15,(vI s_54.2.2)),(67,(vL Placed.enc r_44.1)),(68,(vI (r_44.1.length:Int))),(69,(vI (k_49:Int)))]:SL_)) p.1 p.2.1 p.2.2)) (λk x s=>jJ l_1 k x s) o_61 r_44.1 ((s_14.1,a_46,0),n_19,n_48) hj_62 rfl (aK rfl) ?_ ?_
       ·rintro ⟨k_49,l_50,s_54,n_57,n_58⟩ ⟨hL_60,hD_52⟩
        dsimp only at hL_60 hD_52
        cases l_50 with
        | nil =>
         obtain rfl:=ae hL_60
         refine ai (aa (vB (decide ((k_49:Int)<(r_44.1.length:Int)))) (ah ?_))
         refine ak (ax rfl (drop_nil hD_52) (bf ?_))
         exact aY (s_54,n_57,n_58) rfl rfl (aK rfl)
        | cons x_51 l_50 =>
         obtain ⟨c_,hc_59,hL_60⟩:=bind_some hL_60
         refine ai (aa (vB (decide ((k_49:Int)<(r_44.1.length:Int)))) (ah ?_))
         refine ak (aA rfl (bA hD_52) (av ?_))
         unfold jJ at hc_59
         refine ak (aQ (ai (dB Ho rfl rfl (bK hD_52) rfl wz (bH Er Ph rfl (.d (.agg (Placed.enc x_51))) rfl wz (di 0 (.inl rfl) z60 rfl wz (λn_63=>gu 0 il ft 2 Er rfl rfl [(vI x_51.f_i),(vI x_51.f_at)] rfl wz (ah (ai (aa (vL Log_.enc l_1) (aH O3 rfl 0 rfl wz (aG 0 2 il ft sz3 ag3 rfl rfl (vI x_51.f_i) rfl wz ?_)))))))))))
         obtain ⟨y_64,hy_65,hc_59⟩:=bind_some hc_59
         refine dB GR rfl rfl hy_65 rfl wz (bH BF Ia rfl (.d (.agg (Log_.enc y_64))) rfl wz (di 0 (.inl rfl) z49 rfl wz (λn_66=>gu 0 il ft 3 BF rfl rfl (Log_.v y_64) rfl wz (ah (ak (bC (aH Hq rfl 1 rfl wz (aG 1 2 (.inr (by kernel_rfl)) (λ_ _ ag=>trivial) sz3 ag3 rfl rfl (vI x_51.f_at) rfl wz (aa (vI s_54.2.2) (qK (vI (iw x_51.f_at s_54.2.2)) rfl (.inr rfl) wz (aH Hq rfl 1 rfl wz (aG 5 2 (.inr (by kernel_rfl)) (λ_ _ ag=>⟨.inl ⟨rfl,rfl⟩,trivial⟩) sz3 ag3 rfl rfl (vI x_51.f_at) rfl wz (aH JN rfl 4 rfl wz (aG 7 3 (.inr (by kernel_rfl)) (λ_ _ ag=>⟨.inl ⟨rfl,rfl⟩,⟨.inl ⟨rfl,rfl⟩,trivial⟩⟩) sz3 ag3 rfl rfl (vI y_64.Long) rfl wz (aa (vI (w64 (x_51.f_at+y_64.Long))) (aa (vI (iw x_51.f_at s_54.2.2)) (aa (vI (w64 (x_51.f_at+y_64.Long))) (ah (ak (ak ?_))))))))))))))))))))
         obtain ⟨v_67,h_68,hc_59⟩:=bind_some hc_59
         refine aS [(0,(vL Log_.enc l_1)),(1,(vL Beat.enc b_2)),(9,(gV n_57 4 s_54.1)),(10,(gV n_58 1 s_54.2.1)),(12,(vI s_31)),(15,(vI s_54.2.2)),(17,(.ref n_63 0 0)),(18,(.ref n_66 0 0)),(19,(vI (iw x_51.f_at s_54.2.2))),(20,(vI (w64 (x_51.f_at+y_64.Long)))),(67,(vL Placed.enc r_44.1)),(68,(vI (r_44.1.length:Int))),(69,(vI (k_49:Int))),(94,(vB v_67))] [(n_57,gB 4 Play.enc s_54.1),(n_58,gB 1 eI s_54.2.1),(n_63,some (.cells 2 [(vI x_51.f_i),(vI x_51.f_at)])),(n_66,some (.cells 6 (Log_.v y_64)))] ?_ ?_
         ·refine au (aa (vI (iw x_51.f_at s_54.2.2)) (aa (vI (w64 (x_51.f_at+y_64.Long))) (aa (vB (decide ((iw x_51.f_at s_54.2.2)>=(w64 (x_51.f_at+y_64.Long))))) ?_)))
          rcases aj h_68 with⟨hc_69,h_68⟩|⟨hc_69,h_68⟩
          ·refine aC rfl hc_69 wz (af (af (af (aa (vB true) (ah ?_)))))
           obtain rfl:=ae h_68
           exact cu
          ·refine aC rfl hc_69 wz (aJ (vI (iw x_51.f_at s_54.2.2)) wa rfl ?_)
           obtain ⟨r_70,hr_71,h_68⟩:=bind_some h_68
           refine aB (eY hr_71) rfl GU rfl rfl rfl rfl wa (aJ (vB (!r_70)) wa rfl (aa (vB (!r_70)) (ah ?_)))
           obtain rfl:=ae h_68
           exact cu
         ·rintro ⟨⟩ _ sl_ H_ hp_ hq_
          refine aR _ hp_ hq_ ?_
          rcases aj hc_59 with⟨hc_72,hc_59⟩|⟨hc_72,hc_59⟩
          ·refine aA rfl hc_72 (ai (aa (gV n_58 1 s_54.2.1) (aH O3 rfl 0 rfl wz (aG 0 2 il ft sz3 ag3 rfl rfl (vI x_51.f_i) rfl wz (fq (([x_51.f_i]:List Int).map eI) mQ x9 rfl rfl rfl rfl rfl wz ?_)))))
           obtain ⟨a_73,hz_74,hc_59⟩:=bind_some hc_59
           refine jL 0 il ft (i:=1) GY GY sz3 z3 rfl (by decide) by3 (by decide) (λ_=>rfl) rfl rfl rfl hz_74 wz (λn_75=>aa (gV n_75 1 a_73) (ah (bf (au (fw (bE hD_52 hn_53) wz rfl (aa (vI ((k_49+1:Nat):Int)) (ah ?_)))))))
           obtain rfl:=ae hc_59
           exact aZ (k_49+1,l_50,(s_54.1,a_73,s_54.2.2),n_57,n_75) ⟨hL_60,aX hD_52⟩ (ls_ _) rfl (aK rfl)
          ·refine ax rfl hc_72 (av (ai (aa (gV n_57 4 s_54.1) (aH vC rfl 0 rfl wz (aG 0 3 il ft sz9 ag9 rfl rfl (vS y_64.Player) rfl wz (aH KO rfl 1 rfl wz (aG 0 3 il ft sz9 ag9 rfl rfl (vS y_64.Item) rfl wz (aa (vI (iw x_51.f_at s_54.2.2)) (aa (vI (w64 (x_51.f_at+y_64.Long))) (aa (vI (iw x_51.f_at s_54.2.2)) (aa (vI (w64 ((w64 (x_51.f_at+y_64.Long))-(iw x_51.f_at s_54.2.2)))) (aJ (.d (.agg (Play.enc (⟨y_64.Player,y_64.Item,(iw x_51.f_at s_54.2.2),(w64 ((w64 (x_51.f_at+y_64.Long))-(iw x_51.f_at s_54.2.2)))⟩:Play)))) wz (by kernel_rfl) (fq (([(⟨y_64.Player,y_64.Item,(iw x_51.f_at s_54.2.2),(w64 ((w64 (x_51.f_at+y_64.Long))-(iw x_51.f_at s_54.2.2)))⟩:Play)]:List Play).map Play.enc) EB ez30 rfl rfl rfl rfl rfl wz ?_)))))))))))))
           obtain ⟨a_76,hz_77,hc_59⟩:=bind_some hc_59
           refine jL 0 il ft (i:=0) el30 el30 Hm z36 rfl (by decide) by36 (by decide) (λ_=>rfl) rfl rfl rfl hz_77 wz (λn_78=>aa (gV n_78 4 a_76) (ah (au (aa (vI (w64 (x_51.f_at+y_64.Long))) (aa (vI (w64 (x_51.f_at+y_64.Long))) (ah (au (fw (bE hD_52 hn_53) wz rfl (aa (vI ((k_49+1:Nat):Int)) (ah ?_))))))))))
           obtain rfl:=ae hc_59
           exact aZ (k_49+1,l_50,(a_76,s_54.2.1,(w64 (x_51.f_at+y_64.Long))),n_78,n_58) ⟨hL_60,aX hD_52⟩ (ls_ _) rfl (aK rfl)
       ·rintro ⟨s_54,n_57,n_58⟩ ho_ sl_ H_ hp_ hq_
        subst ho_
        refine aR _ hp_ hq_ (au (aa (vI s_31) (aa (vI s_31) (ah ?_))))
        obtain rfl:=ae hc_21
        exact aZ (k_9,(s_54.1,s_54.2.1,s_31),n_57,n_58) hL_22 (ls_ _) rfl (aK rfl)
     ·refine ax rfl hc_25 (bf ?_)
      obtain rfl:=ae hc_21
      obtain rfl:=ae hL_22
      exact aY ((s_14.1,s_14.2.1,s_14.2.2),n_19,n_20) rfl rfl (aK rfl)
   ·rintro ⟨s_14,n_19,n_20⟩ ho_ sl_ H_ hp_ hq_
    subst ho_
    refine aR _ hp_ hq_ (ai (aa (gV n_20 1 s_14.2.1) ?_))
    obtain ⟨r_80,hr_81,hF⟩:=bind_some hF
    obtain ⟨_,hs_82,hF⟩:=bind_some hF
    replace hs_82:=mF hs_82
    refine nV 0 [] 1 0 il ft (mf hr_81) rfl hb19 rfl rfl rfl (by kernel_rfl) rfl (.inl rfl) rfl (by kernel_rfl) (by kernel_rfl) (by kernel_rfl) (by kernel_rfl) rfl (by decide) (by kernel_rfl) pI (xC hs_82) wz ([(n_19,gB 4 Play.enc s_14.1),(n_20,gB 1 eI r_80)]:Hp) (by kernel_rfl) (fI (v':=(gV n_20 1 r_80)) 10 rfl (mg hs_82.symm) (fI (v':=(gV n_20 1 r_80)) 114 rfl (mg hs_82.symm) (ah (ai (aa (gV n_19 4 s_14.1) (aa (gV n_20 1 r_80) (aa (gV n_19 4 s_14.1) (aa (gV n_20 1 r_80) (aa (vI 0) (ah (gJ 0 rfl (bZ 4 0 rfl rfl (bZ 9 0 rfl rfl (bZ 116 0 rfl rfl (gJ 1 rfl (bZ 5 1 rfl rfl (bZ 10 1 rfl rfl (bZ 114 1 rfl rfl (bZ 117 1 rfl rfl ?_)))))))))))))))))))
    obtain rfl:=ae hF
    exact ay (aM [(vL Play.enc s_14.1),(vL eI r_80),(vI 0)] ⟨rfl,⟨rfl,⟨rfl,trivial⟩⟩⟩)
theorem uY {a_1:Play} {b_2:Play} {r:Int} (hF:iK a_1 b_2=some r) :
  FnM Tryz.prog 22 [(.d (.agg (Play.enc a_1))),(.d (.agg (Play.enc b_2)))] [] (vI r) []:=by
 refine FnM.of_wH ⟨Tryz.prog,17,[],[]⟩ rfl Tryz.func22 rfl rfl (lb_ rfl) (by kernel_rfl) ?_
 unfold iK at hF
 refine ai (fJ 0 (.inl rfl) (Play.v a_1) rfl rfl wz (λn_3=>fJ 0 (.inl rfl) (Play.v b_2) rfl rfl wz (λn_4=>aa (vI 0) (ah (ak (bC (aH zI rfl 0 rfl wz (aG 1 0 (.inr (by kernel_rfl)) (λ_ _ ag=>trivial) sz9 ag9 rfl rfl (vS a_1.Player) rfl wz (aH zI rfl 0 rfl wz (aG 3 1 (.inr (by kernel_rfl)) (λ_ _ ag=>⟨.inl ⟨rfl,rfl⟩,trivial⟩) sz9 ag9 rfl rfl (vS b_2.Player) rfl wz ?_))))))))))
 obtain ⟨r_5,hr_6,hF⟩:=bind_some hF
 refine aB (fV hr_6) rfl MS rfl rfl rfl rfl wz (aH Av rfl 2 rfl wz (aG 6 0 (.inr (by kernel_rfl)) (λ_ _ ag=>⟨.inl ⟨rfl,rfl⟩,⟨.inl ⟨rfl,rfl⟩,trivial⟩⟩) sz3 ag3 rfl rfl (vI a_1.At) rfl wz (aH Av rfl 2 rfl wz (aG 8 1 (.inr (by kernel_rfl)) (λ_ _ ag=>⟨.inl ⟨rfl,rfl⟩,⟨.inl ⟨rfl,rfl⟩,⟨.inl ⟨rfl,rfl⟩,trivial⟩⟩⟩) sz3 ag3 rfl rfl (vI b_2.At) rfl wz ?_))))
 obtain ⟨r_7,hr_8,hF⟩:=bind_some hF
 refine aB (gq hr_8) rfl Mk rfl rfl rfl rfl wz (fq (([r_5,r_7]:List Int).map eI) mQ x9 rfl rfl rfl rfl rfl wz ?_)
 obtain ⟨r_9,hr_10,hF⟩:=bind_some hF
 refine aB (mH hr_10) rfl NA rfl rfl rfl rfl wz (aa (vI r_9) (ah ?_))
 obtain rfl:=ae hF
 exact ay (aM [(vI r_9)] ⟨rfl,trivial⟩)
theorem qo {l_1:(List Play)} {r:Int} (hF:iA l_1=some r) :
  FnM Tryz.prog 7 [(vL Play.enc l_1)] [] (vI r) []:=by
 refine FnM.of_wH ⟨Tryz.prog,50,[],[]⟩ rfl Tryz.func7 rfl rfl (lb_ rfl) (by kernel_rfl) ?_
 unfold iA at hF
 refine ai (aa (vI 0) (ah (ak (ai (aa (vL Play.enc l_1) (bN Ko rfl wz (aa (vB (decide ((l_1.length:Int)>3000))) (ah ?_))))))))
 rcases aj hF with⟨hc_2,hF⟩|⟨hc_2,hF⟩
 ·refine aA rfl hc_2 (ai (aa (vI 2) (ah ?_)))
  obtain rfl:=ae hF
  exact ay (aM [(vI 2)] ⟨rfl,trivial⟩)
 ·refine ax rfl hc_2 (av (ak (ai (aa (vL Play.enc l_1) (bN Ko rfl wz (aa (vI 0) (ah ?_)))))))
  obtain ⟨o_11,hj_12,hF⟩:=bind_some hF
  obtain ⟨hn_7,hj_12⟩:=bv hj_12
  refine bW (λ(s_8:Unit)=>[]) (λ(s_8:Unit)=>[]) (λ(k_3:Nat)=>(λ(s_8:Unit)=>[(0,(vL Play.enc l_1)),(8,(vL Play.enc l_1)),(9,(vI (l_1.length:Int))),(10,(vI (k_3:Int)))])) (λk x s=>fP l_1 k x s) o_11 l_1 () hj_12 rfl (aK rfl) ?_ ?_
  ·rintro ⟨k_3,l_4,s_8⟩ ⟨hL_10,hD_6⟩
   dsimp only at hL_10 hD_6
   cases l_4 with
   | nil =>
    obtain rfl:=ae hL_10
    refine ai (aa (vB (decide ((k_3:Int)<(l_1.length:Int)))) (ah ?_))
    refine ak (ax rfl (drop_nil hD_6) (bf ?_))
    exact aY (s_8) rfl rfl (aK rfl)
   | cons x_5 l_4 =>
    obtain ⟨c_,hc_9,hL_10⟩:=bind_some hL_10
    refine ai (aa (vB (decide ((k_3:Int)<(l_1.length:Int)))) (ah ?_))
    refine ak (aA rfl (bA hD_6) (av ?_))
    unfold fP at hc_9
    refine ak (aQ (ai (aa (vI (k_3:Int)) (dB EB rfl rfl (bK hD_6) rfl wz (bH Hm N8 rfl (.d (.agg (Play.enc x_5))) rfl wz (di 0 (.inl rfl) z36 rfl wz (λn_13=>aa (vI (k_3:Int)) (gu 0 il ft 0 Hm rfl rfl (Play.v x_5) rfl wz (ah (aQ (ak ?_)))))))))))
    obtain ⟨v_14,h_15,hc_9⟩:=bind_some hc_9
    refine aS [(0,(vL Play.enc l_1)),(3,(vI (k_3:Int))),(4,(.ref n_13 0 0)),(8,(vL Play.enc l_1)),(9,(vI (l_1.length:Int))),(10,(vI (k_3:Int))),(15,(vB v_14))] [(n_13,some (.cells 4 (Play.v x_5)))] ?_ ?_
    ·refine au (aH zI rfl 0 rfl wz (aG 0 0 il ft sz9 ag9 rfl rfl (vS x_5.Player) rfl wz ?_))
     obtain ⟨r_16,hr_17,h_15⟩:=bind_some h_15
     refine aB (dx hr_17) rfl yw rfl rfl rfl rfl wz (aa (vB (!r_16)) ?_)
     rcases aj h_15 with⟨hc_18,h_15⟩|⟨hc_18,h_15⟩
     ·refine aC rfl hc_18 wz (af (af (af (af (aa (vB true) (aa (vB true) (ah ?_)))))))
      obtain rfl:=ae h_15
      exact cu
     ·refine aC rfl hc_18 wz (aH OO rfl 1 rfl wa (aG 0 0 il ft sz9 ag9 rfl rfl (vS x_5.Item) rfl wa ?_))
      obtain ⟨r_19,hr_20,h_15⟩:=bind_some h_15
      refine aB (dx hr_20) rfl yw rfl rfl rfl rfl wa (aJ (vB (!r_19)) wa rfl (aa (vB (!r_19)) (aa (vB (!r_19)) (ah ?_))))
      obtain rfl:=ae h_15
      exact cu
    ·rintro ⟨⟩ _ sl_ H_ hp_ hq_
     refine aR _ hp_ hq_ ?_
     rcases aj hc_9 with⟨hc_21,hc_9⟩|⟨hc_21,hc_9⟩
     ·refine aA rfl hc_21 (ai (aa (vI 5) (ah ?_)))
      obtain rfl:=ae hc_9
      obtain rfl:=ae hL_10
      obtain rfl:=ae hF
      exact ay (aM [(vI 5)] ⟨rfl,trivial⟩)
     ·refine ax rfl hc_21 (ak ?_)
      obtain ⟨v_22,h_23,hc_9⟩:=bind_some hc_9
      refine aS [(0,(vL Play.enc l_1)),(3,(vI (k_3:Int))),(4,(.ref n_13 0 0)),(8,(vL Play.enc l_1)),(9,(vI (l_1.length:Int))),(10,(vI (k_3:Int))),(26,(vB v_22))] [(n_13,some (.cells 4 (Play.v x_5)))] ?_ ?_
      ·refine au (aH Av rfl 2 rfl wz (aG 0 0 il ft sz3 ag3 rfl rfl (vI x_5.At) rfl wz ?_))
       obtain ⟨r_24,hr_25,h_23⟩:=bind_some h_23
       refine aB (eY hr_25) rfl GU rfl rfl rfl rfl wz (aa (vB (!r_24)) ?_)
       rcases aj h_23 with⟨hc_26,h_23⟩|⟨hc_26,h_23⟩
       ·refine aC rfl hc_26 wz (af (af (af (aa (vB true) (aa (vB true) (ah ?_))))))
        obtain rfl:=ae h_23
        exact cu
       ·refine aC rfl hc_26 wz (aH Gr rfl 3 rfl wa (aG 0 0 il ft sz3 ag3 rfl rfl (vI x_5.Long) rfl wa ?_))
        obtain ⟨r_27,hr_28,h_23⟩:=bind_some h_23
        refine aB (aV hr_28) rfl nZ rfl rfl rfl rfl wa (aa (vB r_27) (aa (vB r_27) (ah ?_)))
        obtain rfl:=ae h_23
        exact cu
      ·rintro ⟨⟩ _ sl_ H_ hp_ hq_
       refine aR _ hp_ hq_ ?_
       rcases aj hc_9 with⟨hc_29,hc_9⟩|⟨hc_29,hc_9⟩
       ·refine aA rfl hc_29 (ai (aa (vI 1) (ah ?_)))
        obtain rfl:=ae hc_9
        obtain rfl:=ae hL_10
        obtain rfl:=ae hF
        exact ay (aM [(vI 1)] ⟨rfl,trivial⟩)
       ·refine ax rfl hc_29 (ak ?_)
        obtain ⟨v_30,h_31,hc_9⟩:=bind_some hc_9
        refine aS [(0,(vL Play.enc l_1)),(8,(vL Play.enc l_1)),(9,(vI (l_1.length:Int))),(10,(vI (k_3:Int))),(36,(vB v_30))] [(n_13,some (.cells 4 (Play.v x_5)))] ?_ ?_
        ·refine bC (aa (vI (k_3:Int)) (aa (vB (decide ((k_3:Int)>0))) ?_))
         rcases aj h_31 with⟨hc_32,h_31⟩|⟨hc_32,h_31⟩
         ·refine aC rfl hc_32 wz (aJ (vL Play.enc l_1) wa rfl (aJ (vI (k_3:Int)) wa rfl (aJ (vI (w64 ((k_3:Int)-1))) wa rfl ?_)))
          obtain ⟨y_33,hy_34,h_31⟩:=bind_some h_31
          refine dB EB rfl rfl hy_34 rfl wa (bH Hm N8 rfl (.d (.agg (Play.enc y_33))) rfl wa (aG 8 0 (.inr (by kernel_rfl)) (λ_ _ ag=>trivial) Hm N8 rfl rfl (.d (.agg (Play.enc x_5))) rfl wa ?_))
          obtain ⟨r_35,hr_36,h_31⟩:=bind_some h_31
          refine aB (uY hr_36) rfl hb22 rfl rfl rfl rfl wa (aJ (vB (decide (r_35>=0))) wa rfl (aa (vB (decide (r_35>=0))) (aa (vB (decide (r_35>=0))) (ah ?_))))
          obtain rfl:=ae h_31
          exact cu
         ·refine aC rfl hc_32 wz (af (af (af (af (af (af (af (af (aa (vB false) (aa (vB false) (ah ?_)))))))))))
          obtain rfl:=ae h_31
          exact cu
        ·rintro ⟨⟩ _ sl_ H_ hp_ hq_
         refine aR _ hp_ hq_ ?_
         rcases aj hc_9 with⟨hc_37,hc_9⟩|⟨hc_37,hc_9⟩
         ·refine aA rfl hc_37 (ai (aa (vI 7) (ah ?_)))
          obtain rfl:=ae hc_9
          obtain rfl:=ae hL_10
          obtain rfl:=ae hF
          exact ay (aM [(vI 7)] ⟨rfl,trivial⟩)
         ·refine ax rfl hc_37 (av (au (fw (bE hD_6 hn_7) wz rfl (aa (vI ((k_3+1:Nat):Int)) (ah ?_)))))
          obtain rfl:=ae hc_9
          exact aZ (k_3+1,l_4,()) ⟨hL_10,aX hD_6⟩ (ls_ _) rfl (aK rfl)
  ·rintro s_8 ho_ sl_ H_ hp_ hq_
   subst ho_
   refine aR _ hp_ hq_ (ai (aa (vI 0) (ah ?_)))
   obtain rfl:=ae hF
   exact ay (aM [(vI 0)] ⟨rfl,trivial⟩)
theorem El {atv_1:Int} {zone_2:Int} {r:Int} (hF:o5 atv_1 zone_2=some r) :
  FnM Tryz.prog 23 [(vI atv_1),(vI zone_2)] [] (vI r) []:=by
 refine FnM.of_wH ⟨Tryz.prog,12,[],[]⟩ rfl Tryz.func23 rfl rfl (lb_ rfl) (by kernel_rfl) ?_
 unfold o5 at hF
 refine ai (aa (vI 0) (ah (ai (aa (vI atv_1) (aa (vI zone_2) (aa (vI (w64 (zone_2*60000))) (aa (vI (w64 (atv_1+(w64 (zone_2*60000))))) (aa (vI (w64 ((w64 (atv_1+(w64 (zone_2*60000))))+86400000))) (aa (vI (w64 ((w64 ((w64 (atv_1+(w64 (zone_2*60000))))+86400000)).tdiv 86400000))) (aa (vI (w64 ((w64 ((w64 ((w64 (atv_1+(w64 (zone_2*60000))))+86400000)).tdiv 86400000))-1))) (aa (vI (w64 ((w64 ((w64 ((w64 (atv_1+(w64 (zone_2*60000))))+86400000)).tdiv 86400000))-1))) (ah ?_))))))))))))
 obtain rfl:=ae hF
 exact ay (aM [(vI (w64 ((w64 ((w64 ((w64 (atv_1+(w64 (zone_2*60000))))+86400000)).tdiv 86400000))-1)))] ⟨rfl,trivial⟩)
section
variable [dM:DM]
theorem yY {a_1:Tally} {b_2:Tally} {r:Int} (hF:iH a_1 b_2=some r) :
  FnM Tryz.prog 25 [(.d (.agg (Tally.enc a_1))),(.d (.agg (Tally.enc b_2)))] [] (vI r) []:=by
 refine FnM.of_wH ⟨Tryz.prog,22,[],[]⟩ rfl Tryz.func25 rfl rfl (lb_ rfl) (by kernel_rfl) ?_
 unfold iH at hF
 refine ai (fJ 0 (.inl rfl) (Tally.v a_1) rfl rfl wz (λn_3=>fJ 0 (.inl rfl) (Tally.v b_2) rfl rfl wz (λn_4=>aa (vI 0) (ah (ak (bC (aH PU rfl 0 rfl wz (aG 1 0 (.inr (by kernel_rfl)) (λ_ _ ag=>trivial) sz9 ag9 rfl rfl (vS a_1.Player) rfl wz (aH PU rfl 0 rfl wz (aG 3 1 (.inr (by kernel_rfl)) (λ_ _ ag=>⟨.inl ⟨rfl,rfl⟩,trivial⟩) sz9 ag9 rfl rfl (vS b_2.Player) rfl wz ?_))))))))))
 obtain ⟨r_5,hr_6,hF⟩:=bind_some hF
 refine aB (fV hr_6) rfl MS rfl rfl rfl rfl wz (aH Ou rfl 1 rfl wz (aG 6 0 (.inr (by kernel_rfl)) (λ_ _ ag=>⟨.inl ⟨rfl,rfl⟩,⟨.inl ⟨rfl,rfl⟩,trivial⟩⟩) sz9 ag9 rfl rfl (vS a_1.Item) rfl wz (aH Ou rfl 1 rfl wz (aG 8 1 (.inr (by kernel_rfl)) (λ_ _ ag=>⟨.inl ⟨rfl,rfl⟩,⟨.inl ⟨rfl,rfl⟩,⟨.inl ⟨rfl,rfl⟩,trivial⟩⟩⟩) sz9 ag9 rfl rfl (vS b_2.Item) rfl wz ?_))))
 obtain ⟨r_7,hr_8,hF⟩:=bind_some hF
 refine aB (fV hr_8) rfl MS rfl rfl rfl rfl wz (aH Ot rfl 2 rfl wz (aG 11 0 (.inr (by kernel_rfl)) (λ_ _ ag=>⟨.inl ⟨rfl,rfl⟩,⟨.inl ⟨rfl,rfl⟩,⟨.inl ⟨rfl,rfl⟩,⟨.inl ⟨rfl,rfl⟩,trivial⟩⟩⟩⟩) sz3 ag3 rfl rfl (vI a_1.Day) rfl wz (aH Ot rfl 2 rfl wz (aG 13 1 (.inr (by kernel_rfl)) (λ_ _ ag=>⟨.inl ⟨rfl,rfl⟩,⟨.inl ⟨rfl,rfl⟩,⟨.inl ⟨rfl,rfl⟩,⟨.inl ⟨rfl,rfl⟩,⟨.inl ⟨rfl,rfl⟩,trivial⟩⟩⟩⟩⟩) sz3 ag3 rfl rfl (vI b_2.Day) rfl wz ?_))))
 obtain ⟨r_9,hr_10,hF⟩:=bind_some hF
 refine aB (gq hr_10) rfl Mk rfl rfl rfl rfl wz (fq (([r_5,r_7,r_9]:List Int).map eI) mQ x9 rfl rfl rfl rfl rfl wz ?_)
 obtain ⟨r_11,hr_12,hF⟩:=bind_some hF
 refine aB (mH hr_12) rfl NA rfl rfl rfl rfl wz (aa (vI r_11) (ah ?_))
 obtain rfl:=ae hF
 exact ay (aM [(vI r_11)] ⟨rfl,trivial⟩)
end
theorem nT {x r:(List Tally)} (hF:eB x=some r) :
  FnM Tryz.prog 24 [(dV (aI 0) 5 x),(.fn 25 [])] (([]:List Box)++gI 5 Tally.enc x) (.tup []) (([]:List Box).map some++gT x (gB 5 Tally.enc r)) :=
 Nn (E:=Tally.enc) (F:=λa b=>iH a b) (λ_=>rfl) (λa b r h=>yY (dM:=dmT) h) hb25 (λβ _ enc hk h1 cf hO g cb blk off cap d w eg hcmp hH hblk hsz=>Tryz.slices_SortFunc_eq_f24 5 Tryz.isAgg42 Tryz.sizeOf42 enc hk h1 cf hO g cb blk off cap d w eg hcmp hH hblk hsz) (λp cap fv w=>Tryz.slices_SortFunc_none_f24 (α:=Nat) p cap fv w) hF
theorem Bt {l_1:(List Play)} {zone_2:Int} {r:(List Tally)×Int} (hF:nJ l_1 zone_2=some r) :
  FnM Tryz.prog 8 [(vL Play.enc l_1),(vI zone_2)] [] (.tup [(vL Tally.enc r.1),(vI r.2)]) []:=by
 refine FnM.of_wH ⟨Tryz.prog,81,[],[]⟩ rfl Tryz.func8 rfl rfl (lb_ rfl) (by kernel_rfl) ?_
 unfold nJ at hF
 refine ai (aa .nil (aa (vI 0) (ah (ak (ai (aa (vL Play.enc l_1) ?_))))))
 obtain ⟨r_3,hr_4,hF⟩:=bind_some hF
 refine aB (qo hr_4) rfl hb7 rfl rfl rfl rfl wz (aa (vI r_3) (ah (ai (aa (vI r_3) (aa (vB (r_3 != 0)) (ah ?_))))))
 rcases aj hF with⟨hc_5,hF⟩|⟨hc_5,hF⟩
 ·refine aA rfl hc_5 (ai (aa (vI r_3) (aa .nil (aa (vI r_3) (ah ?_)))))
  obtain rfl:=ae hF
  exact ay (aM [.nil,(vI r_3)] ⟨rfl,⟨rfl,trivial⟩⟩)
 ·refine ax rfl hc_5 (av (ak (ai (aa (vI zone_2) ?_))))
  obtain ⟨r_6,hr_7,hF⟩:=bind_some hF
  refine aB (aV hr_7) rfl nZ rfl rfl rfl rfl wz (ah ?_)
  rcases aj hF with⟨hc_8,hF⟩|⟨hc_8,hF⟩
  ·refine aA rfl hc_8 (ai (aa .nil (aa (vI 1) (ah ?_))))
   obtain rfl:=ae hF
   exact ay (aM [.nil,(vI 1)] ⟨rfl,⟨rfl,trivial⟩⟩)
  ·refine ax rfl hc_8 (av (ai (Me 0 (.inl rfl) wz (λn_9=>h_ghost (λhw=>wH_pm (Kt:=Tally) (X:=Tally) (kD:=(λx=>D.agg (Tally.enc x))) (enc:=Tally.enc) (sz:=5) 0 rfl hw) (by kernel_rfl) (aa (.map n_9) (ah (ak (ai (aa (vL Play.enc l_1) (bN Ko rfl wz (aa (vI 0) (ah ?_))))))))))))
   obtain ⟨o_20,hj_21,hF⟩:=bind_some hF
   obtain ⟨hn_14,hj_21⟩:=bv hj_21
   refine iM (σ:=(List (Tally×Tally))) (N:=(Nat->Nm)) (λp=>(λ(s_15:(List (Tally×Tally))) (ns_17:(Nat->Nm))=>([(7,(.map n_9))]:SL_)) p.1 p.2) (λp=>(λ(s_15:(List (Tally×Tally))) (ns_17:(Nat->Nm))=>(([(n_9,some (pmB (λx=>D.agg (Tally.enc x)) ns_17 s_15))]:Hp)++(pmT 5 Tally.enc ns_17 s_15))) p.1 p.2) (λ(k_10:Nat)=>(λp=>(λ(s_15:(List (Tally×Tally))) (ns_17:(Nat->Nm))=>([(1,(vI zone_2)),(7,(.map n_9)),(23,(vL Play.enc l_1)),(24,(vI (l_1.length:Int))),(25,(vI (k_10:Int)))]:SL_)) p.1 p.2)) (λk x s=>iZ zone_2 k x s) o_20 l_1 (([]:List (Tally×Tally)),ns0) hj_21 rfl (wI (C1:=([(n_9,some (pmB (λx=>D.agg (Tally.enc x)) ns0 ([]:List (Tally×Tally))))]:Hp)) (T:=(pmT 5 Tally.enc ns0 ([]:List (Tally×Tally)))) [0] (by decide) rfl rfl) ?_ ?_
   ·rintro ⟨k_10,l_11,s_15,ns_17⟩ ⟨hL_19,hD_13⟩
    dsimp only at hL_19 hD_13
    cases l_11 with
    | nil =>
     obtain rfl:=ae hL_19
     refine ai (aa (vB (decide ((k_10:Int)<(l_1.length:Int)))) (ah ?_))
     refine ak (ax rfl (drop_nil hD_13) (bf ?_))
     exact aY (s_15,ns_17) rfl rfl (wI (C1:=([(n_9,some (pmB (λx=>D.agg (Tally.enc x)) ns_17 s_15))]:Hp)) (T:=(pmT 5 Tally.enc ns_17 s_15)) [0] (by decide) rfl rfl)
    | cons x_12 l_11 =>
     obtain ⟨c_,hc_18,hL_19⟩:=bind_some hL_19
     refine ai (aa (vB (decide ((k_10:Int)<(l_1.length:Int)))) (ah ?_))
     refine ak (aA rfl (bA hD_13) (av ?_))
     unfold iZ at hc_18
     refine ak (aQ (ai (dB EB rfl rfl (bK hD_13) rfl wz (bH Hm N8 rfl (.d (.agg (Play.enc x_12))) rfl wz (di 0 (.inl rfl) z36 rfl wz (λn_22=>GL (C0:=([(n_9,some (pmB (λx=>D.agg (Tally.enc x)) ns_17 s_15))]:Hp)) (T:=(pmT 5 Tally.enc ns_17 s_15)) (X:=([(n_22,some (.cells 4 [(vS (⟨#[]⟩:ByteArray)),(vS (⟨#[]⟩:ByteArray)),(vI 0),(vI 0)]))]:Hp)) (gu 0 il ft 1 Hm rfl rfl (Play.v x_12) rfl wz (ah (ak (bC (aH zI rfl 0 rfl wz (aG 1 1 (.inr (by kernel_rfl)) (λ_ _ ag=>trivial) sz9 ag9 rfl rfl (vS x_12.Player) rfl wz (aH OO rfl 1 rfl wz (aG 3 1 (.inr (by kernel_rfl)) (λ_ _ ag=>⟨.inl ⟨rfl,rfl⟩,trivial⟩) sz9 ag9 rfl rfl (vS x_12.Item) rfl wz (aH Av rfl 2 rfl wz (aG 5 1 (.inr (by kernel_rfl)) (λ_ _ ag=>⟨.inl ⟨rfl,rfl⟩,⟨.inl ⟨rfl,rfl⟩,trivial⟩⟩) sz3 ag3 rfl rfl (vI x_12.At) rfl wz (aa (vI zone_2) ?_)))))))))))))))))
     obtain ⟨r_23,hr_24,hc_18⟩:=bind_some hc_18
     refine aB (El hr_24) rfl hb23 rfl rfl rfl rfl wz (aJ (.d (.agg (Tally.enc (⟨x_12.Player,x_12.Item,r_23,0,0⟩:Tally)))) wz (by kernel_rfl) (di 9 (.inr (by kernel_rfl)) z42 rfl wz (λn_25=>GL (C0:=([(n_9,some (pmB (λx=>D.agg (Tally.enc x)) ns_17 s_15)),(n_22,some (.cells 4 (Play.v x_12)))]:Hp)) (T:=(pmT 5 Tally.enc ns_17 s_15)) (X:=([(n_25,some (.cells 5 [(vS (⟨#[]⟩:ByteArray)),(vS (⟨#[]⟩:ByteArray)),(vI 0),(vI 0),(vI 0)]))]:Hp)) (gu 10 (.inr (by kernel_rfl)) (λ_ _ ag=>⟨.inr (.inr (by kernel_rfl)),⟨.inr (.inr (by kernel_rfl)),⟨.inr (.inr (by kernel_rfl)),⟨.inr (.inr (by kernel_rfl)),trivial⟩⟩⟩⟩) 2 Ca rfl rfl [(vS x_12.Player),(vS x_12.Item),(vI r_23),(vI 0),(vI 0)] rfl wz (ah (ak (ai (aa (.map n_9) (aG 0 2 il ft Ca J9 rfl rfl (.d (.agg (Tally.enc (⟨x_12.Player,x_12.Item,r_23,0,0⟩:Tally)))) rfl wz (Ah (eq:=(λ(a b:Tally)=>(eqS a.Player b.Player&&(eqS a.Item b.Item&&(eqI a.Day b.Day&&(eqI a.Many b.Many&&(eqI a.Long b.Long&&true))))))) (kD:=(λx=>D.agg (Tally.enc x))) (es:=s_15) (ns:=ns_17) (k:=(⟨x_12.Player,x_12.Item,r_23,0,0⟩:Tally)) 0 0 il ft (λ_ _=>rfl) mt65 (by kernel_rfl) (by kernel_rfl) rfl rfl rfl wz (h_peq pt66 rfl rfl wz (ah ?_))))))))))))
     obtain ⟨v_26,h_27,hc_18⟩:=bind_some hc_18
     refine jU (β:=(Nat->Nm)) (λ(ns_28:(Nat->Nm))=>([(1,(vI zone_2)),(7,(.map n_9)),(9,(.ref n_22 0 0)),(10,(.ref n_25 0 0)),(23,(vL Play.enc l_1)),(24,(vI (l_1.length:Int))),(25,(vI (k_10:Int)))]:SL_)) (λ(ns_28:(Nat->Nm))=>(([(n_9,some (pmB (λx=>D.agg (Tally.enc x)) ns_28 v_26)),(n_22,some (.cells 4 (Play.v x_12))),(n_25,some (.cells 5 [(vS x_12.Player),(vS x_12.Item),(vI r_23),(vI 0),(vI 0)]))]:Hp)++(pmT 5 Tally.enc ns_28 v_26))) (λ_=>True) ?_ ?_
     ·rcases aj h_27 with⟨hc_29,h_27⟩|⟨hc_29,h_27⟩
      ·refine aA rfl hc_29 (ai (aG 0 2 il ft Ca J9 rfl rfl (.d (.agg (Tally.enc (⟨x_12.Player,x_12.Item,r_23,0,0⟩:Tally)))) rfl wz (di 0 (.inl rfl) z42 rfl wz (λn_30=>GL (C0:=([(n_9,some (pmB (λx=>D.agg (Tally.enc x)) ns_17 s_15)),(n_22,some (.cells 4 (Play.v x_12))),(n_25,some (.cells 5 [(vS x_12.Player),(vS x_12.Item),(vI r_23),(vI 0),(vI 0)]))]:Hp)) (T:=(pmT 5 Tally.enc ns_17 s_15)) (X:=([(n_30,some (.cells 5 [(vS (⟨#[]⟩:ByteArray)),(vS (⟨#[]⟩:ByteArray)),(vI 0),(vI 0),(vI 0)]))]:Hp)) (gu 0 il ft 3 Ca rfl rfl [(vS x_12.Player),(vS x_12.Item),(vI r_23),(vI 0),(vI 0)] rfl wz (ah (au (aa (.map n_9) (aG 0 2 il ft Ca J9 rfl rfl (.d (.agg (Tally.enc (⟨x_12.Player,x_12.Item,r_23,0,0⟩:Tally)))) rfl wz ?_)))))))))
       obtain ⟨_,hn_31,h_27⟩:=bind_some h_27
       refine FC (H0:=(([(n_9,some (pmB (λx=>D.agg (Tally.enc x)) ns_17 s_15)),(n_22,some (.cells 4 (Play.v x_12))),(n_25,some (.cells 5 [(vS x_12.Player),(vS x_12.Item),(vI r_23),(vI 0),(vI 0)])),(n_30,some (.cells 5 [(vS x_12.Player),(vS x_12.Item),(vI r_23),(vI 0),(vI 0)]))]:Hp)++(pmT 5 Tally.enc ns_17 s_15))) rfl (h_pset (eq:=(λ(a b:Tally)=>(eqS a.Player b.Player&&(eqS a.Item b.Item&&(eqI a.Day b.Day&&(eqI a.Many b.Many&&(eqI a.Long b.Long&&true))))))) (C0:=([(n_9,some (pmB (λx=>D.agg (Tally.enc x)) ns_17 s_15)),(n_22,some (.cells 4 (Play.v x_12))),(n_25,some (.cells 5 [(vS x_12.Player),(vS x_12.Item),(vI r_23),(vI 0),(vI 0)])),(n_30,some (.cells 5 [(vS x_12.Player),(vS x_12.Item),(vI r_23),(vI 0),(vI 0)]))]:Hp)) (C1:=(([(n_9,some (pmB (λx=>D.agg (Tally.enc x)) (yZ ns_17 s_15.length n_30) (s_15++[((⟨x_12.Player,x_12.Item,r_23,0,0⟩:Tally),(⟨x_12.Player,x_12.Item,r_23,0,0⟩:Tally))]))),(n_22,some (.cells 4 (Play.v x_12))),(n_25,some (.cells 5 [(vS x_12.Player),(vS x_12.Item),(vI r_23),(vI 0),(vI 0)]))]:Hp):Hp)) (k:=(⟨x_12.Player,x_12.Item,r_23,0,0⟩:Tally)) (v:=(⟨x_12.Player,x_12.Item,r_23,0,0⟩:Tally)) 0 3 (λ_ _=>rfl) mt65 (by kernel_rfl) rfl rfl rfl rfl rfl rfl (by decide) (O6 hn_31) rfl wz (ah ?_))
       obtain rfl:=ae h_27
       exact aY (yZ ns_17 s_15.length n_30) trivial rfl (wI (C1:=([(n_9,some (pmB (λx=>D.agg (Tally.enc x)) (yZ ns_17 s_15.length n_30) (s_15++[((⟨x_12.Player,x_12.Item,r_23,0,0⟩:Tally),(⟨x_12.Player,x_12.Item,r_23,0,0⟩:Tally))]))),(n_22,some (.cells 4 (Play.v x_12))),(n_25,some (.cells 5 [(vS x_12.Player),(vS x_12.Item),(vI r_23),(vI 0),(vI 0)]))]:Hp)) (T:=(pmT 5 Tally.enc (yZ ns_17 s_15.length n_30) (s_15++[((⟨x_12.Player,x_12.Item,r_23,0,0⟩:Tally),(⟨x_12.Player,x_12.Item,r_23,0,0⟩:Tally))]))) [0,1,2] (by decide) rfl rfl)
      ·refine ax rfl hc_29 (av ?_)
       obtain rfl:=ae h_27
       exact aY ns_17 trivial rfl (wI (C1:=([(n_9,some (pmB (λx=>D.agg (Tally.enc x)) ns_17 s_15)),(n_22,some (.cells 4 (Play.v x_12))),(n_25,some (.cells 5 [(vS x_12.Player),(vS x_12.Item),(vI r_23),(vI 0),(vI 0)]))]:Hp)) (T:=(pmT 5 Tally.enc ns_17 s_15)) [0,1,2] (by decide) rfl rfl)
     ·rintro ns_28 _ sl_ H_ hp_ hq_
      refine aR _ hp_ hq_ (ai (aa (.map n_9) (aG 0 2 il ft Ca J9 rfl rfl (.d (.agg (Tally.enc (⟨x_12.Player,x_12.Item,r_23,0,0⟩:Tally)))) rfl wz (Ah (eq:=(λ(a b:Tally)=>(eqS a.Player b.Player&&(eqS a.Item b.Item&&(eqI a.Day b.Day&&(eqI a.Many b.Many&&(eqI a.Long b.Long&&true))))))) (kD:=(λx=>D.agg (Tally.enc x))) (es:=v_26) (ns:=ns_28) (k:=(⟨x_12.Player,x_12.Item,r_23,0,0⟩:Tally)) 0 0 il ft (λ_ _=>rfl) mt65 (by kernel_rfl) (by kernel_rfl) rfl rfl rfl wz ?_))))
      obtain ⟨i_32,hi_33,hc_18⟩:=bind_some hc_18
      refine fI (v':=(.ref (ns_28 i_32) 0 0)) 47 rfl (Lb hi_33) (aa (.ref (ns_28 i_32) 0 0) (aH Kw rfl 3 rfl wz ?_))
      obtain ⟨e_34,hy_35,hc_18⟩:=bind_some hc_18
      refine FC (H0:=(([(n_9,some (pmB (λx=>D.agg (Tally.enc x)) ns_28 v_26)),(n_22,some (.cells 4 (Play.v x_12))),(n_25,some (.cells 5 [(vS x_12.Player),(vS x_12.Item),(vI r_23),(vI 0),(vI 0)]))]:Hp)++(pmT 5 Tally.enc ns_28 v_26))) rfl (PL 0 il ft sz3 ag3 rfl hy_35 (vI e_34.2.Many) rfl wz (aa (vI (w64 (e_34.2.Many+1))) (aa (.ref (ns_28 i_32) 0 0) (aH Kw rfl 3 rfl wz ?_))))
      obtain ⟨e_36,hy_37,hc_18⟩:=bind_some hc_18
      refine FC (H0:=(([(n_9,some (pmB (λx=>D.agg (Tally.enc x)) ns_28 v_26)),(n_22,some (.cells 4 (Play.v x_12))),(n_25,some (.cells 5 [(vS x_12.Player),(vS x_12.Item),(vI r_23),(vI 0),(vI 0)]))]:Hp)++(pmT 5 Tally.enc ns_28 v_26))) rfl (h_pst 0 il ft sz3 rfl hy_37 (⟨e_36.2.Player,e_36.2.Item,e_36.2.Day,(w64 (e_34.2.Many+1)),e_36.2.Long⟩:Tally) rfl wz (Mh (b':=some (pmB (λx=>D.agg (Tally.enc x)) ns_28 (v_26.set i_32 (e_36.1,(⟨e_36.2.Player,e_36.2.Item,e_36.2.Day,(w64 (e_34.2.Many+1)),e_36.2.Long⟩:Tally))))) 0 rfl (Lg hy_37) (ah (bC (aa (.map n_9) (aG 1 2 (.inr (by kernel_rfl)) (λ_ _ ag=>trivial) Ca J9 rfl rfl (.d (.agg (Tally.enc (⟨x_12.Player,x_12.Item,r_23,0,0⟩:Tally)))) rfl wz (Ah (eq:=(λ(a b:Tally)=>(eqS a.Player b.Player&&(eqS a.Item b.Item&&(eqI a.Day b.Day&&(eqI a.Many b.Many&&(eqI a.Long b.Long&&true))))))) (kD:=(λx=>D.agg (Tally.enc x))) (es:=(v_26.set i_32 (e_36.1,(⟨e_36.2.Player,e_36.2.Item,e_36.2.Day,(w64 (e_34.2.Many+1)),e_36.2.Long⟩:Tally)))) (ns:=ns_28) (k:=(⟨x_12.Player,x_12.Item,r_23,0,0⟩:Tally)) 2 0 (.inr (by kernel_rfl)) (λ_ _ ag=>⟨.inl ⟨rfl,rfl⟩,trivial⟩) (λ_ _=>rfl) mt65 (by kernel_rfl) (by kernel_rfl) rfl rfl rfl wz ?_)))))))
      obtain ⟨i_38,hi_39,hc_18⟩:=bind_some hc_18
      refine fI (v':=(.ref (ns_28 i_38) 0 0)) 56 rfl (Lb hi_39) (aa (.ref (ns_28 i_38) 0 0) (aH JA rfl 4 rfl wz ?_))
      obtain ⟨e_40,hy_41,hc_18⟩:=bind_some hc_18
      refine FC (H0:=(([(n_9,some (pmB (λx=>D.agg (Tally.enc x)) ns_28 (v_26.set i_32 (e_36.1,(⟨e_36.2.Player,e_36.2.Item,e_36.2.Day,(w64 (e_34.2.Many+1)),e_36.2.Long⟩:Tally))))),(n_22,some (.cells 4 (Play.v x_12))),(n_25,some (.cells 5 [(vS x_12.Player),(vS x_12.Item),(vI r_23),(vI 0),(vI 0)]))]:Hp)++(pmT 5 Tally.enc ns_28 (v_26.set i_32 (e_36.1,(⟨e_36.2.Player,e_36.2.Item,e_36.2.Day,(w64 (e_34.2.Many+1)),e_36.2.Long⟩:Tally)))))) rfl (PL 5 (.inr (by kernel_rfl)) (λ_ _ ag=>⟨.inl ⟨rfl,rfl⟩,⟨.inl ⟨rfl,rfl⟩,trivial⟩⟩) sz3 ag3 rfl hy_41 (vI e_40.2.Long) rfl wz (aH Gr rfl 3 rfl wz (aG 7 1 (.inr (by kernel_rfl)) (λ_ _ ag=>⟨.inl ⟨rfl,rfl⟩,⟨.inl ⟨rfl,rfl⟩,⟨.inl ⟨rfl,rfl⟩,trivial⟩⟩⟩) sz3 ag3 rfl rfl (vI x_12.Long) rfl wz (aa (vI (w64 (e_40.2.Long+x_12.Long))) (aa (.ref (ns_28 i_38) 0 0) (aH JA rfl 4 rfl wz ?_))))))
      obtain ⟨e_42,hy_43,hc_18⟩:=bind_some hc_18
      refine FC (H0:=(([(n_9,some (pmB (λx=>D.agg (Tally.enc x)) ns_28 (v_26.set i_32 (e_36.1,(⟨e_36.2.Player,e_36.2.Item,e_36.2.Day,(w64 (e_34.2.Many+1)),e_36.2.Long⟩:Tally))))),(n_22,some (.cells 4 (Play.v x_12))),(n_25,some (.cells 5 [(vS x_12.Player),(vS x_12.Item),(vI r_23),(vI 0),(vI 0)]))]:Hp)++(pmT 5 Tally.enc ns_28 (v_26.set i_32 (e_36.1,(⟨e_36.2.Player,e_36.2.Item,e_36.2.Day,(w64 (e_34.2.Many+1)),e_36.2.Long⟩:Tally)))))) rfl (h_pst 11 (.inr (by kernel_rfl)) (λ_ _ ag=>⟨.inr (.inr (by kernel_rfl)),⟨.inr (.inr (by kernel_rfl)),⟨.inr (.inr (by kernel_rfl)),⟨.inr (.inr (by kernel_rfl)),trivial⟩⟩⟩⟩) sz3 rfl hy_43 (⟨e_42.2.Player,e_42.2.Item,e_42.2.Day,e_42.2.Many,(w64 (e_40.2.Long+x_12.Long))⟩:Tally) rfl wz (Mh (b':=some (pmB (λx=>D.agg (Tally.enc x)) ns_28 ((v_26.set i_32 (e_36.1,(⟨e_36.2.Player,e_36.2.Item,e_36.2.Day,(w64 (e_34.2.Many+1)),e_36.2.Long⟩:Tally))).set i_38 (e_42.1,(⟨e_42.2.Player,e_42.2.Item,e_42.2.Day,e_42.2.Many,(w64 (e_40.2.Long+x_12.Long))⟩:Tally))))) 0 rfl (Lg hy_43) (ah (au (fw (bE hD_13 hn_14) wz rfl (aa (vI ((k_10+1:Nat):Int)) (ah ?_)))))))
      obtain rfl:=ae hc_18
      exact aZ (k_10+1,l_11,((v_26.set i_32 (e_36.1,(⟨e_36.2.Player,e_36.2.Item,e_36.2.Day,(w64 (e_34.2.Many+1)),e_36.2.Long⟩:Tally))).set i_38 (e_42.1,(⟨e_42.2.Player,e_42.2.Item,e_42.2.Day,e_42.2.Many,(w64 (e_40.2.Long+x_12.Long))⟩:Tally))),ns_28) ⟨hL_19,aX hD_13⟩ (ls_ _) rfl (wI (C1:=([(n_9,some (pmB (λx=>D.agg (Tally.enc x)) ns_28 ((v_26.set i_32 (e_36.1,(⟨e_36.2.Player,e_36.2.Item,e_36.2.Day,(w64 (e_34.2.Many+1)),e_36.2.Long⟩:Tally))).set i_38 (e_42.1,(⟨e_42.2.Player,e_42.2.Item,e_42.2.Day,e_42.2.Many,(w64 (e_40.2.Long+x_12.Long))⟩:Tally))))),(n_22,some (.cells 4 (Play.v x_12))),(n_25,some (.cells 5 [(vS x_12.Player),(vS x_12.Item),(vI r_23),(vI 0),(vI 0)]))]:Hp)) (T:=(pmT 5 Tally.enc ns_28 ((v_26.set i_32 (e_36.1,(⟨e_36.2.Player,e_36.2.Item,e_36.2.Day,(w64 (e_34.2.Many+1)),e_36.2.Long⟩:Tally))).set i_38 (e_42.1,(⟨e_42.2.Player,e_42.2.Item,e_42.2.Day,e_42.2.Many,(w64 (e_40.2.Long+x_12.Long))⟩:Tally))))) [0] (by decide) rfl rfl)
   ·rintro ⟨s_15,ns_17⟩ ho_ sl_ H_ hp_ hq_
    subst ho_
    refine aR _ hp_ hq_ (ai (aa .nil (ah (ak (ai (aa (.map n_9) (h_range (f:=(λ(e:Nat×Tally)=>((λx=>D.agg (Tally.enc x)) e.2,V.ref (ns_17 e.1) 0 0))) (left:=(pmL s_15)) 0 (by kernel_rfl) rfl rfl (Oq _) wz (λn_44=>ah (mh (λn_51=>N7 (C0:=([(n_44,some (iB (λ(e:Nat×Tally)=>((λx=>D.agg (Tally.enc x)) e.2,V.ref (ns_17 e.1) 0 0)) none (pmL s_15)))]:Hp)) (T:=(pmT 5 Tally.enc ns_17 s_15)) (X:=([(n_51,gB 5 Tally.enc ([]:List Tally))]:Hp)) ?_))))))))))
    have hj_58:=Kk hF
    refine NY (σ:=(List Tally)) (N:=Nm) (λp=>(λ(s_50:List Tally) (n_53:Nm)=>([(12,(gV n_53 5 s_50))]:SL_)) p.1 p.2) (λp=>(λ(s_50:List Tally) (n_53:Nm)=>(([(n_53,gB 5 Tally.enc s_50)]:Hp)++(pmT 5 Tally.enc ns_17 s_15))) p.1 p.2) (λp=>(λ(s_50:List Tally) (n_53:Nm)=>([(12,(gV n_53 5 s_50)),(67,(.ref n_44 0 0))]:SL_)) p.1 p.2) (λ(l_45:List (Nat×Tally)) (cu_46:Option (Nat×Tally))=>(λp=>(λ(s_50:List Tally) (n_53:Nm)=>(([(n_44,some (iB (λ(e:Nat×Tally)=>((λx=>D.agg (Tally.enc x)) e.2,V.ref (ns_17 e.1) 0 0)) cu_46 l_45)),(n_53,gB 5 Tally.enc s_50)]:Hp)++(pmT 5 Tally.enc ns_17 s_15))) p.1 p.2)) (λx s=>gY s_15 x s) _ _ (pmL s_15) (([]:List Tally),n_51) hj_58 rfl (wI (C1:=([(n_44,some (iB (λ(e:Nat×Tally)=>((λx=>D.agg (Tally.enc x)) e.2,V.ref (ns_17 e.1) 0 0)) none (pmL s_15))),(n_51,gB 5 Tally.enc ([]:List Tally))]:Hp)) (T:=(pmT 5 Tally.enc ns_17 s_15)) [0,1] (by decide) rfl rfl) ?_ ?_
    ·rintro ⟨l_45,cu_46,s_50,n_53⟩ hL_55
     dsimp only at hL_55
     refine ai (h_next (f:=(λ(e:Nat×Tally)=>((λx=>D.agg (Tally.enc x)) e.2,V.ref (ns_17 e.1) 0 0))) (cur:=cu_46) (left:=l_45) 0 rfl rfl wz (λhl_ => ?_) (λi_47 x_48 he_49 => ?_))
     ·refine aJ (vB false) wz rfl (ah ?_)
      refine ak (ax rfl rfl (bf ?_))
      exact aY (s_50,n_53) (hL_55 [] (by rw [hl_])) rfl (wI (C1:=([(n_44,some (iB (λ(e:Nat×Tally)=>((λx=>D.agg (Tally.enc x)) e.2,V.ref (ns_17 e.1) 0 0)) cu_46 l_45)),(n_53,gB 5 Tally.enc s_50)]:Hp)) (T:=(pmT 5 Tally.enc ns_17 s_15)) [1] (by decide) rfl rfl)
     ·obtain ⟨c_,hc_54,hM_56⟩:=M5 hL_55 he_49
      refine aJ (vB true) wz rfl (ah ?_)
      refine ak (aA rfl rfl (av ?_))
      unfold gY at hc_54
      refine aQ (ai (h_entry (f:=(λ(e:Nat×Tally)=>((λx=>D.agg (Tally.enc x)) e.2,V.ref (ns_17 e.1) 0 0))) (e:=x_48) (left:=(l_45.eraseIdx i_47)) 0 rfl rfl (.tup [(.d (.agg (Tally.enc x_48.2))),(.ref (ns_17 x_48.1) 0 0)]) rfl wz (aa (.ref (ns_17 x_48.1) 0 0) (aa (.ref (ns_17 x_48.1) 0 0) (ah (au (aa (gV n_53 5 s_50) (aa (.ref (ns_17 x_48.1) 0 0) (aa (.ref (ns_17 x_48.1) 0 0) ?_)))))))))
      obtain ⟨e_59,hy_60,hc_54⟩:=bind_some hc_54
      refine FC (H0:=(([(n_44,some (iB (λ(e:Nat×Tally)=>((λx=>D.agg (Tally.enc x)) e.2,V.ref (ns_17 e.1) 0 0)) (some x_48) (l_45.eraseIdx i_47))),(n_53,gB 5 Tally.enc s_50)]:Hp)++(pmT 5 Tally.enc ns_17 s_15))) rfl (PL 0 il ft Ca J9 rfl hy_60 (.d (.agg (Tally.enc e_59.2))) rfl wz (fq (([e_59.2]:List Tally).map Tally.enc) es37 ez37 rfl rfl rfl rfl rfl wz ?_))
      obtain ⟨a_61,hz_62,hc_54⟩:=bind_some hc_54
      refine jL 0 il ft (i:=1) el37 el37 Ca z42 rfl (by decide) by42 (by decide) (λ_=>rfl) rfl rfl rfl hz_62 wz (λn_63=>aa (gV n_63 5 a_61) (ah ?_))
      obtain rfl:=ae hc_54
      exact aZ (l_45.eraseIdx i_47,some x_48,a_61,n_63) (hM_56 _ rfl) (NF he_49) rfl (wI (C1:=([(n_44,some (iB (λ(e:Nat×Tally)=>((λx=>D.agg (Tally.enc x)) e.2,V.ref (ns_17 e.1) 0 0)) (some x_48) (l_45.eraseIdx i_47))),(n_63,gB 5 Tally.enc a_61)]:Hp)) (T:=(pmT 5 Tally.enc ns_17 s_15)) [0,1] (by decide) rfl rfl)
    ·rintro ⟨s_50,n_53⟩ hF sl_ H_ hp_ hq_
     dsimp only [thenC]at hF
     refine aR _ hp_ hq_ (ai (aa (gV n_53 5 s_50) ?_))
     obtain ⟨r_64,hr_65,hF⟩:=bind_some hF
     obtain ⟨_,hs_66,hF⟩:=bind_some hF
     replace hs_66:=mF hs_66
     refine nV 0 [] 0 0 il ft (nT hr_65) rfl hb24 rfl rfl rfl (by kernel_rfl) rfl (.inl rfl) rfl (by kernel_rfl) (by kernel_rfl) (by kernel_rfl) (by kernel_rfl) rfl (by decide) (by kernel_rfl) pI (xC hs_66) wz (([(n_53,gB 5 Tally.enc r_64)]:Hp)++(pmT 5 Tally.enc ns_17 s_15)) (by kernel_rfl) (fI (v':=(gV n_53 5 r_64)) 12 rfl (mg hs_66.symm) (fI (v':=(gV n_53 5 r_64)) 78 rfl (mg hs_66.symm) (ah (ai (aa (gV n_53 5 r_64) (aa (gV n_53 5 r_64) (aa (vI 0) (ah (gJ 0 rfl (bZ 4 0 rfl rfl (bZ 12 0 rfl rfl (bZ 78 0 rfl rfl (bZ 80 0 rfl rfl ?_)))))))))))))
     obtain rfl:=ae hF
     exact ay (aM [(vL Tally.enc r_64),(vI 0)] ⟨rfl,⟨rfl,trivial⟩⟩)
theorem qh {r_1:Rect} {r:Int} (hF:lU r_1=some r) :
  FnM Tryz.prog 87 [(.d (.agg (Rect.enc r_1)))] [] (vI r) []:=by
 refine FnM.of_wH ⟨Tryz.prog,25,[],[]⟩ rfl Tryz.func87 rfl rfl (lb_ rfl) (by kernel_rfl) ?_
 unfold lU at hF
 refine ai (fJ 0 (.inl rfl) (Rect.v r_1) rfl rfl wz (λn_2=>aa (vI 0) (ah (ak (ak ?_)))))
 obtain ⟨v_3,h_4,hF⟩:=bind_some hF
 refine aS [(1,(.ref n_2 0 0)),(10,(vB v_3))] [(n_2,some (.cells 4 (Rect.v r_1)))] ?_ ?_
 ·refine au (aH zK rfl 0 rfl wz (aG 0 0 il ft sz3 ag3 rfl rfl (vI r_1.X) rfl wz ?_))
  obtain ⟨r_5,hr_6,h_4⟩:=bind_some h_4
  refine aB (aV hr_6) rfl nZ rfl rfl rfl rfl wz ?_
  rcases aj h_4 with⟨hc_7,h_4⟩|⟨hc_7,h_4⟩
  ·refine aC rfl hc_7 wz (af (af (af (aa (vB true) (ah ?_)))))
   obtain rfl:=ae h_4
   exact cu
  ·refine aC rfl hc_7 wz (aH vJ rfl 1 rfl wa (aG 0 0 il ft sz3 ag3 rfl rfl (vI r_1.Y) rfl wa ?_))
   obtain ⟨r_8,hr_9,h_4⟩:=bind_some h_4
   refine aB (aV hr_9) rfl nZ rfl rfl rfl rfl wa (aa (vB r_8) (ah ?_))
   obtain rfl:=ae h_4
   exact cu
 ·rintro ⟨⟩ _ sl_ H_ hp_ hq_
  refine aR _ hp_ hq_ ?_
  rcases aj hF with⟨hc_10,hF⟩|⟨hc_10,hF⟩
  ·refine aA rfl hc_10 (ai (aa (vI 1) (ah ?_)))
   obtain rfl:=ae hF
   exact ay (aM [(vI 1)] ⟨rfl,trivial⟩)
  ·refine ax rfl hc_10 (av (ak (ak ?_)))
   obtain ⟨v_11,h_12,hF⟩:=bind_some hF
   refine aS [(24,(vB v_11))] [(n_2,some (.cells 4 (Rect.v r_1)))] ?_ ?_
   ·refine au (aH Hu rfl 2 rfl wz (aG 0 0 il ft sz3 ag3 rfl rfl (vI r_1.W) rfl wz (aH zK rfl 0 rfl wz (aG 0 0 il ft sz3 ag3 rfl rfl (vI r_1.X) rfl wz (aa (vI (w64 (100000-r_1.X))) ?_)))))
    obtain ⟨r_13,hr_14,h_12⟩:=bind_some h_12
    refine aB (aV hr_14) rfl nZ rfl rfl rfl rfl wz ?_
    rcases aj h_12 with⟨hc_15,h_12⟩|⟨hc_15,h_12⟩
    ·refine aC rfl hc_15 wz (af (af (af (af (af (af (aa (vB true) (ah ?_))))))))
     obtain rfl:=ae h_12
     exact cu
    ·refine aC rfl hc_15 wz (aH Co rfl 3 rfl wa (aG 0 0 il ft sz3 ag3 rfl rfl (vI r_1.H) rfl wa (aH vJ rfl 1 rfl wa (aG 0 0 il ft sz3 ag3 rfl rfl (vI r_1.Y) rfl wa (aJ (vI (w64 (100000-r_1.Y))) wa rfl ?_)))))
     obtain ⟨r_16,hr_17,h_12⟩:=bind_some h_12
     refine aB (aV hr_17) rfl nZ rfl rfl rfl rfl wa (aa (vB r_16) (ah ?_))
     obtain rfl:=ae h_12
     exact cu
   ·rintro ⟨⟩ _ sl_ H_ hp_ hq_
    refine aR _ hp_ hq_ ?_
    rcases aj hF with⟨hc_18,hF⟩|⟨hc_18,hF⟩
    ·refine aA rfl hc_18 (ai (aa (vI 1) (ah ?_)))
     obtain rfl:=ae hF
     exact ay (aM [(vI 1)] ⟨rfl,trivial⟩)
    ·refine ax rfl hc_18 (av (ai (aa (vI 0) (ah ?_))))
     obtain rfl:=ae hF
     exact ay (aM [(vI 0)] ⟨rfl,trivial⟩)
theorem wC {l_1:(List Rect)} {r:Int} (hF:kQ l_1=some r) :
  FnM Tryz.prog 52 [(vL Rect.enc l_1)] [] (vI r) []:=by
 refine FnM.of_wH ⟨Tryz.prog,21,[],[]⟩ rfl Tryz.func52 rfl rfl (lb_ rfl) (by kernel_rfl) ?_
 unfold kQ at hF
 refine ai (aa (vI 0) (ah (ak (ai (aa (vL Rect.enc l_1) (bN Ao rfl wz (aa (vB (decide ((l_1.length:Int)>2000))) (ah ?_))))))))
 rcases aj hF with⟨hc_2,hF⟩|⟨hc_2,hF⟩
 ·refine aA rfl hc_2 (ai (aa (vI 2) (ah ?_)))
  obtain rfl:=ae hF
  exact ay (aM [(vI 2)] ⟨rfl,trivial⟩)
 ·refine ax rfl hc_2 (av (ak (ai (aa (vL Rect.enc l_1) (bN Ao rfl wz (aa (vI 0) (ah ?_)))))))
  obtain ⟨o_11,hj_12,hF⟩:=bind_some hF
  obtain ⟨hn_7,hj_12⟩:=bv hj_12
  refine bW (λ(s_8:Unit)=>[]) (λ(s_8:Unit)=>[]) (λ(k_3:Nat)=>(λ(s_8:Unit)=>[(9,(vL Rect.enc l_1)),(10,(vI (l_1.length:Int))),(11,(vI (k_3:Int)))])) (λk x s=>lg k x s) o_11 l_1 () hj_12 rfl (aK rfl) ?_ ?_
  ·rintro ⟨k_3,l_4,s_8⟩ ⟨hL_10,hD_6⟩
   dsimp only at hL_10 hD_6
   cases l_4 with
   | nil =>
    obtain rfl:=ae hL_10
    refine ai (aa (vB (decide ((k_3:Int)<(l_1.length:Int)))) (ah ?_))
    refine ak (ax rfl (drop_nil hD_6) (bf ?_))
    exact aY (s_8) rfl rfl (aK rfl)
   | cons x_5 l_4 =>
    obtain ⟨c_,hc_9,hL_10⟩:=bind_some hL_10
    refine ai (aa (vB (decide ((k_3:Int)<(l_1.length:Int)))) (ah ?_))
    refine ak (aA rfl (bA hD_6) (av ?_))
    unfold lg at hc_9
    refine ak (aQ (ai (dB FQ rfl rfl (bK hD_6) rfl wz (bH vR IU rfl (.d (.agg (Rect.enc x_5))) rfl wz (di 0 (.inl rfl) z74 rfl wz (λn_13=>gu 0 il ft 0 vR rfl rfl (Rect.v x_5) rfl wz (ah (ai (aG 0 0 il ft vR IU rfl rfl (.d (.agg (Rect.enc x_5))) rfl wz ?_)))))))))
    obtain ⟨r_14,hr_15,hc_9⟩:=bind_some hc_9
    refine aB (qh hr_15) rfl hb87 rfl rfl rfl rfl wz (aa (vI r_14) (ah (ai (aa (vI r_14) (aa (vB (r_14 != 0)) (ah ?_))))))
    rcases aj hc_9 with⟨hc_16,hc_9⟩|⟨hc_16,hc_9⟩
    ·refine aA rfl hc_16 (ai (aa (vI r_14) (aa (vI r_14) (ah ?_))))
     obtain rfl:=ae hc_9
     obtain rfl:=ae hL_10
     obtain rfl:=ae hF
     exact ay (aM [(vI r_14)] ⟨rfl,trivial⟩)
    ·refine ax rfl hc_16 (av (au (fw (bE hD_6 hn_7) wz rfl (aa (vI ((k_3+1:Nat):Int)) (ah ?_)))))
     obtain rfl:=ae hc_9
     exact aZ (k_3+1,l_4,()) ⟨hL_10,aX hD_6⟩ (ls_ _) rfl (aK rfl)
  ·rintro s_8 ho_ sl_ H_ hp_ hq_
   subst ho_
   refine aR _ hp_ hq_ (ai (aa (vI 0) (ah ?_)))
   obtain rfl:=ae hF
   exact ay (aM [(vI 0)] ⟨rfl,trivial⟩)
theorem mR {n_1:Int} {r:Bool} (hF:fT n_1=some r) :
  FnM Tryz.prog 121 [.nil,(vI n_1)] [] (kV r (aI 0) 4 ([]:List Rect)) (kO r 4):=by
 refine FnM.of_wH ⟨Tryz.prog,27,[],[]⟩ rfl Tryz.func121 rfl rfl (lb_ rfl) (by kernel_rfl) ?_
 unfold fT at hF
 refine ai (aa .nil (ah (ak (ai (aa (vI n_1) (aa (vB (decide (n_1<0))) (ah ?_)))))))
 rcases aj hF with⟨hc_2,hF⟩|⟨hc_2,hF⟩
 ·refine aA rfl hc_2 (au ?_)
  cases hF
 ·refine ax rfl hc_2 (av (ak (ai (aa (vI n_1) (aa .nil (Oa JU rfl wz (aa .nil (NG Ao rfl wz (aa (vI (w64 (0-0))) (aa (vI (w64 (n_1-(w64 (0-0))))) (aa (vI (w64 (n_1-(w64 (0-0))))) (ah (ai (aa (vI (w64 (n_1-(w64 (0-0))))) (aa (vB (decide ((w64 (n_1-(w64 (0-0))))>0))) (ah ?_))))))))))))))))
  rcases aj hF with⟨hc_3,hF⟩|⟨hc_3,hF⟩
  ·refine aA rfl hc_3 (au (aa .nil (aa .nil (Oa JU rfl wz (aJ .nil wz (by kernel_rfl) (aa (vI (w64 (n_1-(w64 (0-0))))) ?_))))))
   obtain ⟨_,hz_5,hF⟩:=bind_some hF
   refine h_appz (enc:=Rect.enc) 0 (.inl rfl) JU (by kernel_rfl) vR z74 rfl (by decide) by74 rfl rfl hz_5 wz (λn_4=>aa .nil (NG Ao rfl wz (h_cutm (m:=0) Ao vR rfl rfl rfl (Nat.zero_le _) wz (aa (.vs n_4 4 0 0) (ah (ai (aa (.vs n_4 4 0 0) (aa (.vs n_4 4 0 0) (ah ?_)))))))))
   obtain rfl:=ae hF
   exact ay (finK (.inr rfl) 0 rfl rfl)
  ·refine ax rfl hc_3 (av (ai (aa .nil (aa .nil (ah ?_)))))
   obtain rfl:=ae hF
   exact ay (finK0 (.inr rfl) rfl)
end Go.Proofs.YtnfojnnfidnikaaGreatDoor.Law

