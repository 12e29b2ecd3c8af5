/-
 The machine computes these plain functions (written by a program of ours).
-/
import Derived.Test.YtmkljmjhcegapaaGreatDoorFacts
import Derived.Test.YtmkljmjhcegapaaGreatDoorDefs
import Derived.Test.YtmkljmjhcegapaaGreatDoorPf3
import Derived.Test.YtmkljmjhcegapaaGreatDoorShelf
open Go Go.Eng Go.Proofs
namespace Go.Proofs.YtmkljmjhcegapaaGreatDoor.Law
set_option maxRecDepth 100000
set_option linter.unusedVariables false
set_option maxHeartbeats 1000000
theorem xx {l_1:(List Beat_)} {n_2:Int} {r:Int×Int} (hF:ji l_1 n_2=some r) :
  FnM Tryz.prog 58 [(vL Beat_.enc l_1),(vI n_2)] [] (.tup [(vI r.1),(vI r.2)]) []:=by
 refine FnM.of_wH ⟨Tryz.prog,108,[],[]⟩ rfl Tryz.func58 rfl rfl (lb_ rfl) (by kernel_rfl) ?_
 unfold ji at hF
 refine aj (aa (vI 0) (aa (vI 0) (af (au (aj (aa (vL Beat_.enc l_1) (dx RH rfl wz (aa (vB ((l_1.length:Int)==0)) (af ?_)))))))))
 rcases ak hF with⟨hc_3,hF⟩|⟨hc_3,hF⟩
 ·refine aA rfl hc_3 (aj (aa (vI 0) (aa (vI 8) (af ?_))))
  obtain rfl:=ae hF
  exact aH (aN [(vI 0),(vI 8)] ⟨rfl,⟨rfl,trivial⟩⟩)
 ·refine ay rfl hc_3 (ax (aj (aa (vI 0) (af (au ?_)))))
  obtain ⟨o_12,hj_13,hF⟩:=bind_some hF
  obtain ⟨nq_51,hj_13⟩:=cK hj_13
  refine fo (λ(s_9:Int)=>[(0,(vL Beat_.enc l_1)),(1,(vI n_2)),(6,(vI s_9))]) (λ(s_9:Int)=>[]) (λ(k_4:Nat)=>(λ(s_9:Int)=>[(0,(vL Beat_.enc l_1)),(1,(vI n_2)),(6,(vI s_9))])) (λs=>gX l_1 n_2 s) o_12 nq_51 0 hj_13 rfl (aK rfl) ?_ ?_
  ·rintro ⟨k_4,s_9⟩ hL_11
   dsimp only at hL_11
   cases k_4 with
   | zero=>cases hL_11
   | succ k_4 =>
    obtain ⟨c_,hc_10,hL_11⟩:=bind_some hL_11
    unfold gX at hc_10
    refine au (au ?_)
    obtain ⟨v_14,h_15,hc_10⟩:=bind_some hc_10
    refine aS [(0,(vL Beat_.enc l_1)),(1,(vI n_2)),(6,(vI s_9)),(25,(vB v_14))] [] ?_ ?_
    ·refine av (aa (vI s_9) (aa (vL Beat_.enc l_1) (dx RH rfl wz (aa (vB (decide (s_9<(l_1.length:Int)))) ?_))))
     rcases ak h_15 with⟨hc_16,h_15⟩|⟨hc_16,h_15⟩
     ·refine aI rfl hc_16 wz (aM (vL Beat_.enc l_1) wa rfl (aM (vI s_9) wa rfl ?_))
      obtain ⟨y_17,hy_18,h_15⟩:=bind_some h_15
      refine dW A7 rfl rfl hy_18 rfl wa (kP ut rfl [.int .i64 y_17.f_from,.int .i64 y_17.f_to] rfl rfl wa (bK sz3 ag3 rfl (vI y_17.f_from) rfl wa (aM (vI n_2) wa rfl (aM (vB (decide (y_17.f_from<=n_2))) wa rfl (aa (vB (decide (y_17.f_from<=n_2))) (af ?_))))))
      obtain rfl:=ae h_15
      exact cu
     ·refine aI rfl hc_16 wz (ah (ah (ah (ah (ah (ah (ah (aa (vB false) (af ?_)))))))))
      obtain rfl:=ae h_15
      exact cu
    ·rintro ⟨⟩ _ sl_ H_ hp_ hq_
     refine aO _ hp_ hq_ ?_
     rcases ak hc_10 with⟨hc_19,hc_10⟩|⟨hc_19,hc_10⟩
     ·refine aA rfl hc_19 (ax (aQ (av (aa (vI s_9) (aa (vI (w64 (s_9+1))) (aa (vI (w64 (s_9+1))) (af ?_)))))))
      obtain rfl:=ae hc_10
      exact aY (k_4,(w64 (s_9+1))) hL_11 (ls_ _) rfl (aK rfl)
     ·refine ay rfl hc_19 (aX ?_)
      obtain rfl:=ae hc_10
      obtain rfl:=ae hL_11
      exact aV (s_9) rfl rfl (aK rfl)
  ·rintro s_9 ho_ sl_ H_ hp_ hq_
   subst ho_
   refine aO _ hp_ hq_ (aj (aa (vI 0) (af (au (aQ (aj (aa (vI s_9) (aa (vB (s_9==0)) (aa (vB (s_9==0)) (af ?_))))))))))
   rcases ak hF with⟨hc_20,hF⟩|⟨hc_20,hF⟩
   ·refine aA rfl hc_20 (bE (aa (vL Beat_.enc l_1) ?_))
    obtain ⟨y_21,hy_22,hF⟩:=bind_some hF
    refine dW A7 rfl rfl hy_22 rfl wz (kP wU rfl [.int .i64 y_21.f_to] rfl rfl wz (bK sz3 ag3 rfl (vI y_21.f_to) rfl wz (aa (vL Beat_.enc l_1) ?_)))
    obtain ⟨y_23,hy_24,hF⟩:=bind_some hF
    refine dW A7 rfl rfl hy_24 rfl wz (kP ut rfl [.int .i64 y_23.f_from,.int .i64 y_23.f_to] rfl rfl wz (bK sz3 ag3 rfl (vI y_23.f_from) rfl wz (aa (vI n_2) (aa (vI (w64 (y_23.f_from-n_2))) (aa (vI (w64 (y_21.f_to-(w64 (y_23.f_from-n_2))))) (aa (vI (w64 (y_21.f_to-(w64 (y_23.f_from-n_2))))) (af (au (aj (aa (vI (w64 (y_21.f_to-(w64 (y_23.f_from-n_2))))) ?_))))))))))
    obtain ⟨r_25,hr_26,hF⟩:=bind_some hF
    refine aC (gZ hr_26) rfl Ja rfl rfl rfl rfl wz (aa (vB (!r_25)) (af ?_))
    rcases ak hF with⟨hc_27,hF⟩|⟨hc_27,hF⟩
    ·refine aA rfl hc_27 (aj (aa (vI 0) (aa (vI 11) (af ?_))))
     obtain rfl:=ae hF
     exact aH (aN [(vI 0),(vI 11)] ⟨rfl,⟨rfl,trivial⟩⟩)
    ·refine ay rfl hc_27 (ax (aj (aa (vI (w64 (y_21.f_to-(w64 (y_23.f_from-n_2))))) (aa (vI (w64 (y_21.f_to-(w64 (y_23.f_from-n_2))))) (aa (vI 0) (af ?_))))))
     obtain rfl:=ae hF
     exact aH (aN [(vI (w64 (y_21.f_to-(w64 (y_23.f_from-n_2))))),(vI 0)] ⟨rfl,⟨rfl,trivial⟩⟩)
   ·refine ay rfl hc_20 (aj (aa (vI s_9) (aa (vL Beat_.enc l_1) (dx RH rfl wz (aa (vB (s_9==(l_1.length:Int))) (aa (vB (s_9==(l_1.length:Int))) (af ?_)))))))
    rcases ak hF with⟨hc_28,hF⟩|⟨hc_28,hF⟩
    ·refine aA rfl hc_28 (bE (aa (vL Beat_.enc l_1) (aa (vI s_9) (aa (vI (w64 (s_9-1))) ?_))))
     obtain ⟨y_29,hy_30,hF⟩:=bind_some hF
     refine dW A7 rfl rfl hy_30 rfl wz (kP wU rfl [.int .i64 y_29.f_to] rfl rfl wz (bK sz3 ag3 rfl (vI y_29.f_to) rfl wz (aa (vI n_2) (aa (vI (w64 (y_29.f_to+n_2))) (aa (vL Beat_.enc l_1) (aa (vI s_9) (aa (vI (w64 (s_9-1))) ?_)))))))
     obtain ⟨y_31,hy_32,hF⟩:=bind_some hF
     refine dW A7 rfl rfl hy_32 rfl wz (kP ut rfl [.int .i64 y_31.f_from,.int .i64 y_31.f_to] rfl rfl wz (bK sz3 ag3 rfl (vI y_31.f_from) rfl wz (aa (vI (w64 ((w64 (y_29.f_to+n_2))-y_31.f_from))) (aa (vI (w64 ((w64 (y_29.f_to+n_2))-y_31.f_from))) (af (au (aj (aa (vI (w64 ((w64 (y_29.f_to+n_2))-y_31.f_from))) ?_))))))))
     obtain ⟨r_33,hr_34,hF⟩:=bind_some hF
     refine aC (gZ hr_34) rfl Ja rfl rfl rfl rfl wz (aa (vB (!r_33)) (af ?_))
     rcases ak hF with⟨hc_35,hF⟩|⟨hc_35,hF⟩
     ·refine aA rfl hc_35 (aj (aa (vI 0) (aa (vI 11) (af (aO (H0:=([]:Hp)) ([(4,(vI 0)),(5,(vI 11))]:SL_) (by kernel_rfl) (xm (by kernel_rfl)) ?_)))))
      obtain rfl:=ae hF
      exact aH (aN [(vI 0),(vI 11)] ⟨rfl,⟨rfl,trivial⟩⟩)
     ·refine ay rfl hc_35 (ax (aj (aa (vI (w64 ((w64 (y_29.f_to+n_2))-y_31.f_from))) (aa (vI (w64 ((w64 (y_29.f_to+n_2))-y_31.f_from))) (aa (vI 0) (af (aO (H0:=([]:Hp)) ([(4,(vI (w64 ((w64 (y_29.f_to+n_2))-y_31.f_from)))),(5,(vI 0))]:SL_) (by kernel_rfl) (xm (by kernel_rfl)) ?_)))))))
      obtain rfl:=ae hF
      exact aH (aN [(vI (w64 ((w64 (y_29.f_to+n_2))-y_31.f_from))),(vI 0)] ⟨rfl,⟨rfl,trivial⟩⟩)
    ·refine ay rfl hc_28 (au (bE (aa (vL Beat_.enc l_1) (aa (vI s_9) (aa (vI (w64 (s_9-1))) ?_)))))
     obtain ⟨y_36,hy_37,hF⟩:=bind_some hF
     refine dW A7 rfl rfl hy_37 rfl wz (bK Ip ag148 rfl (.d (.agg (Beat_.enc y_36))) rfl wz (aa (vL Beat_.enc l_1) (aa (vI s_9) ?_)))
     obtain ⟨y_38,hy_39,hF⟩:=bind_some hF
     refine dW A7 rfl rfl hy_39 rfl wz (bK Ip ag148 rfl (.d (.agg (Beat_.enc y_38))) rfl wz (dC 9 (.inr (by kernel_rfl)) z148 rfl wz (λn_40=>dC 10 (.inr (by kernel_rfl)) z148 rfl wz (λn_41=>fA 11 (.inr (by kernel_rfl)) (λ_ _ ag=>⟨.inr (.inr (by kernel_rfl)),⟨.inr (.inr (by kernel_rfl)),trivial⟩⟩) 0 Ip rfl rfl [(vI y_36.f_from),(vI y_36.f_to)] rfl wz (fA 12 (.inr (by kernel_rfl)) (λ_ _ ag=>⟨.inr (.inr (by kernel_rfl)),⟨.inr (.inr (by kernel_rfl)),⟨.inr (.inr (by kernel_rfl)),trivial⟩⟩⟩) 1 Ip rfl rfl [(vI y_38.f_from),(vI y_38.f_to)] rfl wz (af (au (au ?_))))))))
     obtain ⟨v_42,h_43,hF⟩:=bind_some hF
     refine aS [(1,(vI n_2)),(8,(.ref n_40 0 0)),(9,(.ref n_41 0 0)),(50,(vB v_42))] [(n_40,some (.cells 2 [(vI y_36.f_from),(vI y_36.f_to)])),(n_41,some (.cells 2 [(vI y_38.f_from),(vI y_38.f_to)]))] ?_ ?_
     ·refine av (aJ ut rfl 0 rfl wz (aB 0 1 il ft sz3 ag3 rfl rfl (vI y_38.f_from) rfl wz (aJ ut rfl 0 rfl wz (aB 0 0 il ft sz3 ag3 rfl rfl (vI y_36.f_from) rfl wz (aa (vI (w64 (y_38.f_from-y_36.f_from))) (aa (vB (decide ((w64 (y_38.f_from-y_36.f_from))>2592000000))) ?_))))))
      rcases ak h_43 with⟨hc_44,h_43⟩|⟨hc_44,h_43⟩
      ·refine aI rfl hc_44 wz (ah (ah (ah (ah (ah (ah (aa (vB true) (af ?_))))))))
       obtain rfl:=ae h_43
       exact cu
      ·refine aI rfl hc_44 wz (aJ wU rfl 1 rfl wa (aB 0 1 il ft sz3 ag3 rfl rfl (vI y_38.f_to) rfl wa (aJ wU rfl 1 rfl wa (aB 0 0 il ft sz3 ag3 rfl rfl (vI y_36.f_to) rfl wa (aM (vI (w64 (y_38.f_to-y_36.f_to))) wa rfl (aM (vB (decide ((w64 (y_38.f_to-y_36.f_to))>2592000000))) wa rfl (aa (vB (decide ((w64 (y_38.f_to-y_36.f_to))>2592000000))) (af ?_))))))))
       obtain rfl:=ae h_43
       exact cu
     ·rintro ⟨⟩ _ sl_ H_ hp_ hq_
      refine aO _ hp_ hq_ ?_
      rcases ak hF with⟨hc_45,hF⟩|⟨hc_45,hF⟩
      ·refine aA rfl hc_45 (aj (aa (vI 0) (aa (vI 2) (af ?_))))
       obtain rfl:=ae hF
       exact aH (aN [(vI 0),(vI 2)] ⟨rfl,⟨rfl,trivial⟩⟩)
      ·refine ay rfl hc_45 (ax (bE (aJ wU rfl 1 rfl wz (aB 1 0 (.inr (by kernel_rfl)) (λ_ _ ag=>trivial) sz3 ag3 rfl rfl (vI y_36.f_to) rfl wz (aa (vI n_2) (aJ ut rfl 0 rfl wz (aB 4 0 (.inr (by kernel_rfl)) (λ_ _ ag=>⟨.inl ⟨rfl,rfl⟩,trivial⟩) sz3 ag3 rfl rfl (vI y_36.f_from) rfl wz (aa (vI (w64 (n_2-y_36.f_from))) (aJ wU rfl 1 rfl wz (aB 7 1 (.inr (by kernel_rfl)) (λ_ _ ag=>⟨.inl ⟨rfl,rfl⟩,⟨.inl ⟨rfl,rfl⟩,trivial⟩⟩) sz3 ag3 rfl rfl (vI y_38.f_to) rfl wz (aJ wU rfl 1 rfl wz (aB 9 0 (.inr (by kernel_rfl)) (λ_ _ ag=>⟨.inl ⟨rfl,rfl⟩,⟨.inl ⟨rfl,rfl⟩,⟨.inl ⟨rfl,rfl⟩,trivial⟩⟩⟩) sz3 ag3 rfl rfl (vI y_36.f_to) rfl wz (aa (vI (w64 (y_38.f_to-y_36.f_to))) (aa (vI (w64 ((w64 (n_2-y_36.f_from))*(w64 (y_38.f_to-y_36.f_to))))) (aJ ut rfl 0 rfl wz (aB 13 1 (.inr (by kernel_rfl)) (λ_ _ ag=>⟨.inl ⟨rfl,rfl⟩,⟨.inl ⟨rfl,rfl⟩,⟨.inl ⟨rfl,rfl⟩,⟨.inl ⟨rfl,rfl⟩,trivial⟩⟩⟩⟩) sz3 ag3 rfl rfl (vI y_38.f_from) rfl wz (aJ ut rfl 0 rfl wz (aB 15 0 (.inr (by kernel_rfl)) (λ_ _ ag=>⟨.inl ⟨rfl,rfl⟩,⟨.inl ⟨rfl,rfl⟩,⟨.inl ⟨rfl,rfl⟩,⟨.inl ⟨rfl,rfl⟩,⟨.inl ⟨rfl,rfl⟩,trivial⟩⟩⟩⟩⟩) sz3 ag3 rfl rfl (vI y_36.f_from) rfl wz (aa (vI (w64 (y_38.f_from-y_36.f_from))) ?_)))))))))))))))))))
       obtain ⟨q_46,hz_47,hF⟩:=bind_some hF
       refine Nw rfl rfl hz_47 wz (aa (vI (w64 (y_36.f_to+q_46))) (aa (vI (w64 (y_36.f_to+q_46))) (af (au (aj (aa (vI (w64 (y_36.f_to+q_46))) ?_))))))
       obtain ⟨r_48,hr_49,hF⟩:=bind_some hF
       refine aC (gZ hr_49) rfl Ja rfl rfl rfl rfl wz (aa (vB (!r_48)) (af ?_))
       rcases ak hF with⟨hc_50,hF⟩|⟨hc_50,hF⟩
       ·refine aA rfl hc_50 (aj (aa (vI 0) (aa (vI 11) (af ?_))))
        obtain rfl:=ae hF
        exact aH (aN [(vI 0),(vI 11)] ⟨rfl,⟨rfl,trivial⟩⟩)
       ·refine ay rfl hc_50 (ax (aj (aa (vI (w64 (y_36.f_to+q_46))) (aa (vI (w64 (y_36.f_to+q_46))) (aa (vI 0) (af ?_))))))
        obtain rfl:=ae hF
        exact aH (aN [(vI (w64 (y_36.f_to+q_46))),(vI 0)] ⟨rfl,⟨rfl,trivial⟩⟩)
theorem zi {x_1:Placed} {y_2:Placed} {r:Int} (hF:lg x_1 y_2=some r) :
  FnM Tryz.prog 60 [(.d (.agg (Placed.enc x_1))),(.d (.agg (Placed.enc y_2)))] [] (vI r) []:=by
 refine FnM.of_wH ⟨Tryz.prog,10,[],[]⟩ rfl Tryz.func60 rfl rfl (lb_ rfl) (by kernel_rfl) ?_
 unfold lg at hF
 refine aj (d9 0 (.inl rfl) [(vI x_1.f_i),(vI x_1.f_at)] rfl rfl wz (λn_3=>d9 0 (.inl rfl) [(vI y_2.f_i),(vI y_2.f_at)] rfl rfl wz (λn_4=>aa (vI 0) (af (aj (aJ I7 rfl 1 rfl wz (aB 0 0 il ft sz3 ag3 rfl rfl (vI x_1.f_at) rfl wz (aJ I7 rfl 1 rfl wz (aB 0 1 il ft sz3 ag3 rfl rfl (vI y_2.f_at) rfl wz ?_)))))))))
 obtain ⟨r_5,hr_6,hF⟩:=bind_some hF
 refine aC (ic hr_6) rfl LP rfl rfl rfl rfl wz (aa (vI r_5) (af ?_))
 obtain rfl:=ae hF
 exact aH (aN [(vI r_5)] ⟨rfl,trivial⟩)
theorem gW {data_1:(List Placed)} {a_2:Int} {b_3:Int} {r:(List Placed)} (hF:dD data_1 a_2 b_3=some r) :
  FnM Tryz.prog 133 [(dV (aG 0) 2 data_1),(vI a_2),(vI b_3),(.fn 60 [])] (([]:List Box)++gI 2 Placed.enc data_1) (.tup []) (([]:List Box).map some++gT data_1 (gB 2 Placed.enc r)):=by
 refine FnM.of_wHv ⟨Tryz.prog,53,[],[]⟩ rfl Tryz.func133 rfl rfl (lb_ rfl) (by kernel_rfl) ?_
 unfold dD at hF
 refine aj (aa (vI a_2) (aa (vI (w64 (a_2+1))) (aa (vI (w64 (a_2+1))) (af ?_))))
 obtain ⟨o_13,hj_14,hF⟩:=bind_some hF
 obtain ⟨nq_51,hj_14⟩:=cK hj_14
 refine fo (λ(s_10:(List Placed)×Int)=>[]) (λ(s_10:(List Placed)×Int)=>[((aG 0),gB 2 Placed.enc s_10.1)]) (λ(k_5:Nat)=>(λ(s_10:(List Placed)×Int)=>[(0,(dV (aG 0) 2 s_10.1)),(1,(vI a_2)),(2,(vI b_3)),(3,(.fn 60 [])),(8,(vI s_10.2))])) (λs=>dY b_3 a_2 s) o_13 nq_51 (data_1,(w64 (a_2+1))) hj_14 rfl (aK rfl) ?_ ?_
 ·rintro ⟨k_5,s_10⟩ hL_12
  dsimp only at hL_12
  cases k_5 with
  | zero=>cases hL_12
  | succ k_5 =>
   obtain ⟨c_,hc_11,hL_12⟩:=bind_some hL_12
   unfold dY at hc_11
   refine au (aj (aa (vI s_10.2) (aa (vI b_3) (aa (vB (decide (s_10.2<b_3))) (af ?_)))))
   rcases ak hc_11 with⟨hc_15,hc_11⟩|⟨hc_15,hc_11⟩
   ·refine aA rfl hc_15 (ax (au (aQ (aj (aa (vI s_10.2) (aa (vI s_10.2) (af ?_)))))))
    obtain ⟨o_24,hj_25,hc_11⟩:=bind_some hc_11
    obtain ⟨nq_50,hj_25⟩:=cK hj_25
    refine fo (λ(s_21:(List Placed)×Int)=>[(0,(dV (aG 0) 2 s_21.1)),(1,(vI a_2)),(2,(vI b_3)),(3,(.fn 60 [])),(8,(vI s_10.2))]) (λ(s_21:(List Placed)×Int)=>[((aG 0),gB 2 Placed.enc s_21.1)]) (λ(k_16:Nat)=>(λ(s_21:(List Placed)×Int)=>[(0,(dV (aG 0) 2 s_21.1)),(1,(vI a_2)),(2,(vI b_3)),(3,(.fn 60 [])),(8,(vI s_10.2)),(9,(vI s_21.2))])) (λs=>dX a_2 s) o_24 nq_50 (s_10.1,s_10.2) hj_25 rfl (aK rfl) ?_ ?_
    ·rintro ⟨k_16,s_21⟩ hL_23
     dsimp only at hL_23
     cases k_16 with
     | zero=>cases hL_23
     | succ k_16 =>
      obtain ⟨c_,hc_22,hL_23⟩:=bind_some hL_23
      unfold dX at hc_22
      refine au (au ?_)
      obtain ⟨v_26,h_27,hc_22⟩:=bind_some hc_22
      refine aS [(0,(dV (aG 0) 2 s_21.1)),(1,(vI a_2)),(2,(vI b_3)),(3,(.fn 60 [])),(8,(vI s_10.2)),(9,(vI s_21.2)),(34,(vB v_26))] [((aG 0),gB 2 Placed.enc s_21.1)] ?_ ?_
      ·refine bE (aa (vI s_21.2) (aa (vI a_2) (aa (vB (decide (s_21.2>a_2))) ?_)))
       rcases ak h_27 with⟨hc_28,h_27⟩|⟨hc_28,h_27⟩
       ·refine aI rfl hc_28 wz (aM (.fn 60 []) wa rfl (aM (dV (aG 0) 2 s_21.1) wa rfl (aM (vI s_21.2) wa rfl ?_)))
        obtain ⟨_,hi_29,h_27⟩:=bind_some h_27
        refine mI Jw rfl rfl (jW hi_29) (ik hi_29) wa ?_
        obtain ⟨e_30,hy_31,h_27⟩:=bind_some h_27
        refine lK 8 0 (.inr (by kernel_rfl)) (λ_ _ ag=>trivial) GV PM rfl rfl hy_31 (.d (.agg (Placed.enc e_30))) rfl wa (aM (dV (aG 0) 2 s_21.1) wa rfl (aM (vI s_21.2) wa rfl (aM (vI (w64 (s_21.2-1))) wa rfl ?_)))
        obtain ⟨_,hi_32,h_27⟩:=bind_some h_27
        refine mI Jw rfl rfl (jW hi_32) (ik hi_32) wa ?_
        obtain ⟨e_33,hy_34,h_27⟩:=bind_some h_27
        refine lK 13 0 (.inr (by kernel_rfl)) (λ_ _ ag=>⟨.inl ⟨rfl,rfl⟩,trivial⟩) GV PM rfl rfl hy_34 (.d (.agg (Placed.enc e_33))) rfl wa ?_
        obtain ⟨r_35,hr_36,h_27⟩:=bind_some h_27
        refine aC (zi hr_36) rfl hb60 rfl rfl rfl rfl wa (aM (vB (decide (r_35<0))) wa rfl (aa (vB (decide (r_35<0))) (af ?_)))
        obtain rfl:=ae h_27
        exact cu
       ·refine aI rfl hc_28 wz (ah (ah (ah (ah (ah (ah (ah (ah (ah (ah (ah (ah (aa (vB false) (af ?_))))))))))))))
        obtain rfl:=ae h_27
        exact cu
      ·rintro ⟨⟩ _ sl_ H_ hp_ hq_
       refine aO _ hp_ hq_ ?_
       rcases ak hc_22 with⟨hc_37,hc_22⟩|⟨hc_37,hc_22⟩
       ·refine aA rfl hc_37 (ax (au (aQ (bE (aa (dV (aG 0) 2 s_21.1) (aa (vI s_21.2) (aa (dV (aG 0) 2 s_21.1) (aa (vI s_21.2) (aa (vI (w64 (s_21.2-1))) (aa (dV (aG 0) 2 s_21.1) (aa (vI s_21.2) (aa (vI (w64 (s_21.2-1))) ?_))))))))))))
        obtain ⟨_,hi_38,hc_22⟩:=bind_some hc_22
        refine mI Jw rfl rfl (jW hi_38) (ik hi_38) wz ?_
        obtain ⟨e_39,hy_40,hc_22⟩:=bind_some hc_22
        refine lK 9 0 (.inr (by kernel_rfl)) (λ_ _ ag=>trivial) GV PM rfl rfl hy_40 (.d (.agg (Placed.enc e_39))) rfl wz (aa (dV (aG 0) 2 s_21.1) (aa (vI s_21.2) ?_))
        obtain ⟨_,hi_41,hc_22⟩:=bind_some hc_22
        refine mI Jw rfl rfl (jW hi_41) (ik hi_41) wz ?_
        obtain ⟨e_42,hy_43,hc_22⟩:=bind_some hc_22
        refine lK 13 0 (.inr (by kernel_rfl)) (λ_ _ ag=>⟨.inl ⟨rfl,rfl⟩,trivial⟩) GV PM rfl rfl hy_43 (.d (.agg (Placed.enc e_42))) rfl wz ?_
        obtain ⟨_,hi_44,hc_22⟩:=bind_some hc_22
        refine mI Jw rfl rfl (jW hi_44) (ik hi_44) wz ?_
        obtain ⟨e_45,hy_46,hc_22⟩:=bind_some hc_22
        refine yF 15 (.inr (by kernel_rfl)) (λ_ _ ag=>⟨.inr (.inr (by kernel_rfl)),⟨.inr (.inr (by kernel_rfl)),trivial⟩⟩) 0 GV rfl rfl hy_46 e_39 rfl wz (dU (v':=(dV (aG 0) 2 (s_21.1.set (0+(s_21.2).toNat) e_39))) 0 rfl (gM (by simp)) (dU (v':=(dV (aG 0) 2 (s_21.1.set (0+(s_21.2).toNat) e_39))) 37 rfl (gM (by simp)) (dU (v':=(dV (aG 0) 2 (s_21.1.set (0+(s_21.2).toNat) e_39))) 39 rfl (gM (by simp)) (dU (v':=(dV (aG 0) 2 (s_21.1.set (0+(s_21.2).toNat) e_39))) 42 rfl (gM (by simp)) (dU (v':=(dV (aG 0) 2 (s_21.1.set (0+(s_21.2).toNat) e_39))) 47 rfl (gM (by simp)) ?_)))))
        obtain ⟨_,hi_47,hc_22⟩:=bind_some hc_22
        refine mI Jw rfl rfl (jW hi_47) (ik hi_47) wz ?_
        obtain ⟨e_48,hy_49,hc_22⟩:=bind_some hc_22
        refine yF 17 (.inr (by kernel_rfl)) (λ_ _ ag=>⟨.inr (.inr (by kernel_rfl)),⟨.inr (.inr (by kernel_rfl)),⟨.inr (.inr (by kernel_rfl)),trivial⟩⟩⟩) 0 GV rfl rfl hy_49 e_42 rfl wz (dU (v':=(dV (aG 0) 2 ((s_21.1.set (0+(s_21.2).toNat) e_39).set (0+((w64 (s_21.2-1))).toNat) e_42))) 0 rfl (gM (by simp)) (dU (v':=(dV (aG 0) 2 ((s_21.1.set (0+(s_21.2).toNat) e_39).set (0+((w64 (s_21.2-1))).toNat) e_42))) 37 rfl (gM (by simp)) (dU (v':=(dV (aG 0) 2 ((s_21.1.set (0+(s_21.2).toNat) e_39).set (0+((w64 (s_21.2-1))).toNat) e_42))) 39 rfl (gM (by simp)) (dU (v':=(dV (aG 0) 2 ((s_21.1.set (0+(s_21.2).toNat) e_39).set (0+((w64 (s_21.2-1))).toNat) e_42))) 42 rfl (gM (by simp)) (dU (v':=(dV (aG 0) 2 ((s_21.1.set (0+(s_21.2).toNat) e_39).set (0+((w64 (s_21.2-1))).toNat) e_42))) 47 rfl (gM (by simp)) (af (av (aa (vI s_21.2) (aa (vI (w64 (s_21.2-1))) (aa (vI (w64 (s_21.2-1))) (af ?_)))))))))))
        obtain rfl:=ae hc_22
        exact aY (k_16,(((s_21.1.set (0+(s_21.2).toNat) e_39).set (0+((w64 (s_21.2-1))).toNat) e_42),(w64 (s_21.2-1)))) hL_23 (ls_ _) rfl (aK rfl)
       ·refine ay rfl hc_37 (aX ?_)
        obtain rfl:=ae hc_22
        obtain rfl:=ae hL_23
        exact aV ((s_21.1,s_21.2)) rfl rfl (aK rfl)
    ·rintro s_21 ho_ sl_ H_ hp_ hq_
     subst ho_
     refine aO _ hp_ hq_ (av (aa (vI s_10.2) (aa (vI (w64 (s_10.2+1))) (aa (vI (w64 (s_10.2+1))) (af ?_)))))
     obtain rfl:=ae hc_11
     exact aY (k_5,(s_21.1,(w64 (s_10.2+1)))) hL_12 (ls_ _) rfl (aK rfl)
   ·refine ay rfl hc_15 (aX ?_)
    obtain rfl:=ae hc_11
    obtain rfl:=ae hL_12
    exact aV ((s_10.1,s_10.2)) rfl rfl (aK rfl)
 ·rintro s_10 ho_ sl_ H_ hp_ hq_
  subst ho_
  show wY _ _ _ _ _ _ _ _
  obtain rfl:=ae hF
  exact Ei (H0:=([((aG 0),gB 2 Placed.enc s_10.1)]:Hp)) (sl':=envS []) hq_ (pG (bs:=([]:List Box)) (os:=([]:List Box)) (xs:=data_1) (o:=gB 2 Placed.enc s_10.1) (.inl rfl) [] trivial rfl rfl rfl rfl rfl (by kernel_rfl) nU rfl)
theorem mE {data_1:(List Placed)} {n_2:Int} {r:(List Placed)} (hF:ek data_1 n_2=some r) :
  FnM Tryz.prog 85 [(dV (aG 0) 2 data_1),(vI n_2),(.fn 60 [])] (([]:List Box)++gI 2 Placed.enc data_1) (.tup []) (([]:List Box).map some++gT data_1 (gB 2 Placed.enc r)):=by
 refine FnM.of_wHv ⟨Tryz.prog,63,[],[]⟩ rfl Tryz.func85 rfl rfl (lb_ rfl) (by kernel_rfl) ?_
 unfold ek at hF
 refine aj (aa (vI 20) (af (aj (aa (vI 20) (aa (vI 0) (aa (vI 20) (af (au ?_))))))))
 obtain ⟨o_12,hj_13,hF⟩:=bind_some hF
 obtain ⟨nq_48,hj_13⟩:=cK hj_13
 refine fo (λ(s_9:(List Placed)×Int×Int)=>[(0,(dV (aG 0) 2 s_9.1)),(1,(vI n_2)),(2,(.fn 60 [])),(6,(vI 20)),(7,(vI s_9.2.1))]) (λ(s_9:(List Placed)×Int×Int)=>[((aG 0),gB 2 Placed.enc s_9.1)]) (λ(k_4:Nat)=>(λ(s_9:(List Placed)×Int×Int)=>[(0,(dV (aG 0) 2 s_9.1)),(1,(vI n_2)),(2,(.fn 60 [])),(6,(vI 20)),(7,(vI s_9.2.1)),(8,(vI s_9.2.2))])) (λs=>fG n_2 s) o_12 nq_48 (data_1,0,20) hj_13 rfl (aK rfl) ?_ ?_
 ·rintro ⟨k_4,s_9⟩ hL_11
  dsimp only at hL_11
  cases k_4 with
  | zero=>cases hL_11
  | succ k_4 =>
   obtain ⟨c_,hc_10,hL_11⟩:=bind_some hL_11
   unfold fG at hc_10
   refine au (aj (aa (vI s_9.2.2) (aa (vI n_2) (aa (vB (decide (s_9.2.2<=n_2))) (af ?_)))))
   rcases ak hc_10 with⟨hc_14,hc_10⟩|⟨hc_14,hc_10⟩
   ·refine aA rfl hc_14 (ax (aQ (aj (aa (dV (aG 0) 2 s_9.1) (aa (vI s_9.2.1) (aa (vI s_9.2.2) (aa (.fn 60 []) ?_)))))))
    obtain ⟨r_15,hr_16,hc_10⟩:=bind_some hc_10
    obtain ⟨_,hs_17,hc_10⟩:=bind_some hc_10
    replace hs_17:=lQ hs_17
    refine lL 0 [] 0 0 il ft (gW hr_16) rfl hb133 rfl rfl rfl (by kernel_rfl) rfl (.inr (.inl rfl)) rfl (by kernel_rfl) (by kernel_rfl) (by kernel_rfl) (by kernel_rfl) rfl (by decide) (by kernel_rfl) nU (vD hs_17) wz ([((aG 0),gB 2 Placed.enc r_15)]:Hp) (by kernel_rfl) (dU (v':=(dV (aG 0) 2 r_15)) 0 rfl (gM hs_17.symm) (dU (v':=(dV (aG 0) 2 r_15)) 14 rfl (gM hs_17.symm) (af (aj (aa (vI s_9.2.2) (aa (vI s_9.2.2) (af (av (aa (vI s_9.2.2) (aa (vI 20) (aa (vI (w64 (s_9.2.2+20))) (aa (vI (w64 (s_9.2.2+20))) (af ?_)))))))))))))
    obtain rfl:=ae hc_10
    exact aY (k_4,(r_15,s_9.2.2,(w64 (s_9.2.2+20)))) hL_11 (ls_ _) rfl (aK rfl)
   ·refine ay rfl hc_14 (aX ?_)
    obtain rfl:=ae hc_10
    obtain rfl:=ae hL_11
    exact aV ((s_9.1,s_9.2.1,s_9.2.2)) rfl rfl (aK rfl)
 ·rintro s_9 ho_ sl_ H_ hp_ hq_
  subst ho_
  refine aO _ hp_ hq_ (aj (aa (dV (aG 0) 2 s_9.1) (aa (vI s_9.2.1) (aa (vI n_2) (aa (.fn 60 []) ?_)))))
  obtain ⟨r_18,hr_19,hF⟩:=bind_some hF
  obtain ⟨_,hs_20,hF⟩:=bind_some hF
  replace hs_20:=lQ hs_20
  refine lL 0 [] 0 0 il ft (gW hr_19) rfl hb133 rfl rfl rfl (by kernel_rfl) rfl (.inr (.inl rfl)) rfl (by kernel_rfl) (by kernel_rfl) (by kernel_rfl) (by kernel_rfl) rfl (by decide) (by kernel_rfl) nU (vD hs_20) wz ([((aG 0),gB 2 Placed.enc r_18)]:Hp) (by kernel_rfl) (dU (v':=(dV (aG 0) 2 r_18)) 0 rfl (gM hs_20.symm) (dU (v':=(dV (aG 0) 2 r_18)) 23 rfl (gM hs_20.symm) (af ?_)))
  obtain ⟨o_29,hj_30,hF⟩:=bind_some hF
  obtain ⟨nq_47,hj_30⟩:=cK hj_30
  refine fo (λ(s_26:Int)=>[]) (λ(s_26:Int)=>[((aG 0),gB 2 Placed.enc r_18)]) (λ(k_21:Nat)=>(λ(s_26:Int)=>[(0,(dV (aG 0) 2 r_18)),(1,(vI n_2)),(2,(.fn 60 [])),(6,(vI s_26))])) (λs=>fE n_2 s) o_29 nq_47 20 hj_30 rfl (aK rfl) ?_ ?_
  ·rintro ⟨k_21,s_26⟩ hL_28
   dsimp only at hL_28
   cases k_21 with
   | zero=>cases hL_28
   | succ k_21 =>
    obtain ⟨c_,hc_27,hL_28⟩:=bind_some hL_28
    unfold fE at hc_27
    refine au (aj (aa (vI s_26) (aa (vI n_2) (aa (vB (decide (s_26<n_2))) (af ?_)))))
    rcases ak hc_27 with⟨hc_31,hc_27⟩|⟨hc_31,hc_27⟩
    ·refine aA rfl hc_31 (ax (aQ (aj (aa (vI s_26) (aa (vI (w64 (2*s_26))) (aa (vI 0) (aa (vI (w64 (2*s_26))) (af (au ?_)))))))))
     obtain ⟨o_40,hj_41,hc_27⟩:=bind_some hc_27
     obtain ⟨nq_46,hj_41⟩:=cK hj_41
     refine fo (λ(s_37:Unit)=>[(0,(dV (aG 0) 2 r_18)),(1,(vI n_2)),(2,(.fn 60 [])),(6,(vI s_26)),(7,(vI 0))]) (λ(s_37:Unit)=>[((aG 0),gB 2 Placed.enc r_18)]) (λ(k_32:Nat)=>(λ(s_37:Unit)=>[(0,(dV (aG 0) 2 r_18)),(1,(vI n_2)),(2,(.fn 60 [])),(6,(vI s_26)),(7,(vI 0)),(8,(vI (w64 (2*s_26))))])) (λs=>fD s_26 n_2 s) o_40 nq_46 () hj_41 rfl (aK rfl) ?_ ?_
     ·rintro ⟨k_32,s_37⟩ hL_39
      dsimp only at hL_39
      cases k_32 with
      | zero=>cases hL_39
      | succ k_32 =>
       obtain ⟨c_,hc_38,hL_39⟩:=bind_some hL_39
       unfold fD at hc_38
       refine au (aj (aa (vI (w64 (2*s_26))) (aa (vI n_2) (aa (vB (decide ((w64 (2*s_26))<=n_2))) (af ?_)))))
       rcases ak hc_38 with⟨hc_42,hc_38⟩|⟨hc_42,hc_38⟩
       ·refine aA rfl hc_42 (ax (aQ (aj (aa (dV (aG 0) 2 r_18) (aa (vI 0) (aa (vI 0) (aa (vI s_26) (aa (vI (w64 (0+s_26))) (aa (vI (w64 (2*s_26))) (aa (.fn 60 []) ?_))))))))))
        cases hc_38
       ·refine ay rfl hc_42 (aX ?_)
        obtain rfl:=ae hc_38
        obtain rfl:=ae hL_39
        exact aV (()) rfl rfl (aK rfl)
     ·rintro s_37 ho_ sl_ H_ hp_ hq_
      subst ho_
      refine aO _ hp_ hq_ (au (aj (aa (vI 0) (aa (vI s_26) (aa (vI (w64 (0+s_26))) (aa (vI (w64 (0+s_26))) (af (aj (aa (vI (w64 (0+s_26))) (aa (vI n_2) (aa (vB (decide ((w64 (0+s_26))<n_2))) (af ?_))))))))))))
      obtain ⟨v_43,h_44,hc_27⟩:=bind_some hc_27
      refine aS [(0,(dV (aG 0) 2 r_18)),(1,(vI n_2)),(2,(.fn 60 [])),(6,(vI s_26))] [((aG 0),gB 2 Placed.enc r_18)] ?_ ?_
      ·rcases ak h_44 with⟨hc_45,h_44⟩|⟨hc_45,h_44⟩
       ·refine aA rfl hc_45 (av (aa (dV (aG 0) 2 r_18) (aa (vI 0) (aa (vI (w64 (0+s_26))) (aa (vI n_2) (aa (.fn 60 []) ?_))))))
        cases h_44
       ·refine ay rfl hc_45 (ax ?_)
        obtain rfl:=ae h_44
        exact cu
      ·rintro ⟨⟩ _ sl_ H_ hp_ hq_
       refine aO _ hp_ hq_ (av (aa (vI s_26) (aa (vI (w64 (s_26*2))) (aa (vI (w64 (s_26*2))) (af ?_)))))
       obtain rfl:=ae hc_27
       exact aY (k_21,(w64 (s_26*2))) hL_28 (ls_ _) rfl (aK rfl)
    ·refine ay rfl hc_31 (aX ?_)
     obtain rfl:=ae hc_27
     obtain rfl:=ae hL_28
     exact aV (s_26) rfl rfl (aK rfl)
  ·rintro s_26 ho_ sl_ H_ hp_ hq_
   subst ho_
   show wY _ _ _ _ _ _ _ _
   obtain rfl:=ae hF
   exact Ei (H0:=([((aG 0),gB 2 Placed.enc r_18)]:Hp)) (sl':=envS []) hq_ (pG (bs:=([]:List Box)) (os:=([]:List Box)) (xs:=data_1) (o:=gB 2 Placed.enc r_18) (.inl rfl) [] trivial rfl rfl rfl rfl rfl (by kernel_rfl) nU rfl)
theorem jE {x_1:(List Placed)} {r:(List Placed)} (hF:bH x_1=some r) :
  FnM Tryz.prog 59 [(dV (aG 0) 2 x_1),(.fn 60 [])] (([]:List Box)++gI 2 Placed.enc x_1) (.tup []) (([]:List Box).map some++gT x_1 (gB 2 Placed.enc r)):=by
 refine FnM.of_wHv ⟨Tryz.prog,9,[],[]⟩ rfl Tryz.func59 rfl rfl (lb_ rfl) (by kernel_rfl) ?_
 unfold bH at hF
 refine av (aa (dV (aG 0) 2 x_1) (aa (dV (aG 0) 2 x_1) (Cr un78 rfl wz (aa (.fn 60 []) ?_))))
 obtain ⟨r_3,hr_4,hF⟩:=bind_some hF
 obtain ⟨_,hs_5,hF⟩:=bind_some hF
 replace hs_5:=lQ hs_5
 refine lL 0 [] 0 0 il ft (mE hr_4) rfl hb85 rfl rfl rfl (by kernel_rfl) rfl (.inr (.inl rfl)) rfl (by kernel_rfl) (by kernel_rfl) (by kernel_rfl) (by kernel_rfl) rfl (by decide) (by kernel_rfl) nU (vD hs_5) wz ([((aG 0),gB 2 Placed.enc r_3)]:Hp) (by kernel_rfl) (dU (v':=(dV (aG 0) 2 r_3)) 0 rfl (gM hs_5.symm) (dU (v':=(dV (aG 0) 2 r_3)) 4 rfl (gM hs_5.symm) (dU (v':=(dV (aG 0) 2 r_3)) 5 rfl (gM hs_5.symm) (af ?_))))
 show wY _ _ _ _ _ _ _ _
 obtain rfl:=ae hF
 exact pG (bs:=([]:List Box)) (os:=([]:List Box)) (xs:=x_1) (o:=gB 2 Placed.enc r_3) (.inl rfl) [] trivial rfl rfl rfl rfl rfl (by kernel_rfl) nU rfl
theorem AO {l_1:(List Log_)} {fromv_2:Int} {tov_3:Int} {b_4:(List Beat)} {r:(List Placed)×(List Int)} (hF:mW l_1 fromv_2 tov_3 b_4=some r) :
  FnM Tryz.prog 27 [(vL Log_.enc l_1),(vI fromv_2),(vI tov_3),(vL Beat.enc b_4)] [] (.tup [(vL Placed.enc r.1),(vL eI r.2)]) []:=by
 refine FnM.of_wH ⟨Tryz.prog,68,[],[]⟩ rfl Tryz.func27 rfl rfl (lb_ rfl) (by kernel_rfl) ?_
 unfold mW at hF
 refine aj (aa .nil (aa .nil (af (aj (aa (vL Beat.enc b_4) (aa (vL Log_.enc l_1) (aa (vI fromv_2) ?_)))))))
 obtain ⟨y_5,hy_6,hF⟩:=bind_some hF
 refine dW Bd rfl rfl hy_6 rfl wz (kP uI rfl [.str y_5.Player,.str y_5.Item,.int .i64 y_5.No,.int .i64 y_5.Clock,.int .i64 y_5.Long,.str y_5.Sum] rfl rfl wz (bK sz9 ag9 rfl (vS y_5.Player) rfl wz ?_))
 obtain ⟨r_7,hr_8,hF⟩:=bind_some hF
 refine aC (uZ hr_8) rfl hb57 rfl rfl rfl rfl wz (aa (vL Beat_.enc r_7) (af (aj (aa .nil (af (aj (aa .nil (af (au (aj (aa (vI fromv_2) (aa (vI fromv_2) (af (jH (λn_15=>jH (λn_16 => ?_))))))))))))))))
 obtain ⟨o_23,hj_24,hF⟩:=bind_some hF
 obtain ⟨nq_50,hj_24⟩:=cK hj_24
 refine sV (σ:=(List Placed)×(List Int)×Int) (N:=Nm×Nm) (λp=>(λ(s_14:(List Placed)×(List Int)×Int) (n_19:Nm) (n_20:Nm)=>([(11,(gV n_19 2 s_14.1)),(12,(gV n_20 1 s_14.2.1))]:SL_)) p.1 p.2.1 p.2.2) (λp=>(λ(s_14:(List Placed)×(List Int)×Int) (n_19:Nm) (n_20:Nm)=>([(n_19,gB 2 Placed.enc s_14.1),(n_20,gB 1 eI s_14.2.1)]:Hp)) p.1 p.2.1 p.2.2) (λ(k_9:Nat)=>(λp=>(λ(s_14:(List Placed)×(List Int)×Int) (n_19:Nm) (n_20:Nm)=>([(0,(vL Log_.enc l_1)),(2,(vI tov_3)),(10,(vL Beat_.enc r_7)),(11,(gV n_19 2 s_14.1)),(12,(gV n_20 1 s_14.2.1)),(13,(vI s_14.2.2))]:SL_)) p.1 p.2.1 p.2.2)) (λs=>gH tov_3 l_1 r_7 s) o_23 nq_50 ((([]:List Placed),([]:List Int),fromv_2),n_15,n_16) hj_24 rfl (aK rfl) ?_ ?_
 ·rintro ⟨k_9,s_14,n_19,n_20⟩ hL_22
  dsimp only at hL_22
  cases k_9 with
  | zero=>cases hL_22
  | succ k_9 =>
   obtain ⟨c_,hc_21,hL_22⟩:=bind_some hL_22
   unfold gH at hc_21
   refine au (aj (aa (vI s_14.2.2) (aa (vI tov_3) (aa (vB (decide (s_14.2.2<tov_3))) (af ?_)))))
   rcases ak hc_21 with⟨hc_25,hc_21⟩|⟨hc_25,hc_21⟩
   ·refine aA rfl hc_25 (ax (au (aQ (aj (aa (vL Beat_.enc r_7) (aa (vL Log_.enc l_1) (aa (vI s_14.2.2) ?_)))))))
    obtain ⟨y_26,hy_27,hc_21⟩:=bind_some hc_21
    refine dW Bd rfl rfl hy_27 rfl wz (kP IY rfl [.int .i64 y_26.Clock,.int .i64 y_26.Long,.str y_26.Sum] rfl rfl wz (bK sz3 ag3 rfl (vI y_26.Clock) rfl wz ?_))
    obtain ⟨r_28,hr_29,hc_21⟩:=bind_some hc_21
    refine aC (xx hr_29) rfl hb58 rfl rfl rfl rfl wz (aa (.tup [(vI r_28.1),(vI r_28.2)]) (aa (vI r_28.1) (aa (vI r_28.2) (aa (vI r_28.1) (aa (vI r_28.2) (af (aj (aa (vI r_28.2) (af (aQ (aj (aa (vB (r_28.2==0)) (aa (vB (r_28.2==0)) (af ?_))))))))))))))
    obtain ⟨v_30,h_31,hc_21⟩:=bind_some hc_21
    refine jA (β:=Nm×Nm) (λp=>(λ(n_32:Nm) (n_33:Nm)=>([(0,(vL Log_.enc l_1)),(2,(vI tov_3)),(10,(vL Beat_.enc r_7)),(11,(gV n_32 2 v_30.1)),(12,(gV n_33 1 v_30.2)),(13,(vI s_14.2.2))]:SL_)) p.1 p.2) (λp=>(λ(n_32:Nm) (n_33:Nm)=>([(n_32,gB 2 Placed.enc v_30.1),(n_33,gB 1 eI v_30.2)]:Hp)) p.1 p.2) (λ_=>True) ?_ ?_
    ·rcases ak h_31 with⟨hc_34,h_31⟩|⟨hc_34,h_31⟩
     ·refine aA rfl hc_34 (av (aa (gV n_19 2 s_14.1) (aa (vI s_14.2.2) (aa (vI r_28.1) (aM (.d (.agg (Placed.enc (⟨s_14.2.2,r_28.1⟩:Placed)))) wz (by kernel_rfl) (eQ (([(⟨s_14.2.2,r_28.1⟩:Placed)]:List Placed).map Placed.enc) Jw ez78 rfl rfl rfl rfl rfl wz ?_))))))
      obtain ⟨a_35,hz_36,h_31⟩:=bind_some h_31
      refine jh 0 il ft (i:=0) el78 el78 GV z82 rfl (by decide) by82 (by decide) (λ_=>rfl) rfl rfl rfl hz_36 wz (λn_37=>aa (gV n_37 2 a_35) (af ?_))
      obtain rfl:=ae h_31
      exact aV (n_37,n_20) trivial rfl (aK rfl)
     ·refine ay rfl hc_34 (aj (aa (vB (r_28.2==8)) (aa (vB (r_28.2==8)) (af ?_))))
      rcases ak h_31 with⟨hc_38,h_31⟩|⟨hc_38,h_31⟩
      ·refine aA rfl hc_38 (av (aa (gV n_19 2 s_14.1) (aa (vI s_14.2.2) (aa (vL Log_.enc l_1) (aa (vI s_14.2.2) ?_)))))
       obtain ⟨y_39,hy_40,h_31⟩:=bind_some h_31
       refine dW Bd rfl rfl hy_40 rfl wz (kP IY rfl [.int .i64 y_39.Clock,.int .i64 y_39.Long,.str y_39.Sum] rfl rfl wz (bK sz3 ag3 rfl (vI y_39.Clock) rfl wz (aM (.d (.agg (Placed.enc (⟨s_14.2.2,y_39.Clock⟩:Placed)))) wz (by kernel_rfl) (eQ (([(⟨s_14.2.2,y_39.Clock⟩:Placed)]:List Placed).map Placed.enc) Jw ez78 rfl rfl rfl rfl rfl wz ?_))))
       obtain ⟨a_41,hz_42,h_31⟩:=bind_some h_31
       refine jh 0 il ft (i:=0) el78 el78 GV z82 rfl (by decide) by82 (by decide) (λ_=>rfl) rfl rfl rfl hz_42 wz (λn_43=>aa (gV n_43 2 a_41) (af ?_))
       obtain rfl:=ae h_31
       exact aV (n_43,n_20) trivial rfl (aK rfl)
      ·refine ay rfl hc_38 (av (aa (gV n_20 1 s_14.2.1) (aa (vI s_14.2.2) (eQ (([s_14.2.2]:List Int).map eI) lC wJ rfl rfl rfl rfl rfl wz ?_))))
       obtain ⟨a_44,hz_45,h_31⟩:=bind_some h_31
       refine jh 0 il ft (i:=1) Cc Cc sz3 z3 rfl (by decide) by3 (by decide) (λ_=>rfl) rfl rfl rfl hz_45 wz (λn_46=>aa (gV n_46 1 a_44) (af ?_))
       obtain rfl:=ae h_31
       exact aV (n_19,n_46) trivial rfl (aK rfl)
    ·rintro ⟨n_32,n_33⟩ _ sl_ H_ hp_ hq_
     refine aO _ hp_ hq_ (av (aa (vI s_14.2.2) (aa (vI (w64 (s_14.2.2+1))) (aa (vI (w64 (s_14.2.2+1))) (af ?_)))))
     obtain rfl:=ae hc_21
     exact aY (k_9,(v_30.1,v_30.2,(w64 (s_14.2.2+1))),n_32,n_33) hL_22 (ls_ _) rfl (aK rfl)
   ·refine ay rfl hc_25 (aX ?_)
    obtain rfl:=ae hc_21
    obtain rfl:=ae hL_22
    exact aV ((s_14.1,s_14.2.1,s_14.2.2),n_19,n_20) rfl rfl (aK rfl)
 ·rintro ⟨s_14,n_19,n_20⟩ ho_ sl_ H_ hp_ hq_
  subst ho_
  refine aO _ hp_ hq_ (aj (aa (gV n_19 2 s_14.1) ?_))
  obtain ⟨r_47,hr_48,hF⟩:=bind_some hF
  obtain ⟨_,hs_49,hF⟩:=bind_some hF
  replace hs_49:=lQ hs_49
  refine lL 0 [] 0 0 il ft (jE hr_48) rfl hb59 rfl rfl rfl (by kernel_rfl) rfl (.inl rfl) rfl (by kernel_rfl) (by kernel_rfl) (by kernel_rfl) (by kernel_rfl) rfl (by decide) (by kernel_rfl) nU (vD hs_49) wz ([(n_19,gB 2 Placed.enc r_47),(n_20,gB 1 eI s_14.2.1)]:Hp) (by kernel_rfl) (dU (v':=(gV n_19 2 r_47)) 11 rfl (jm hs_49.symm) (dU (v':=(gV n_19 2 r_47)) 64 rfl (jm hs_49.symm) (af (aj (aa (gV n_19 2 r_47) (aa (gV n_20 1 s_14.2.1) (aa (gV n_19 2 r_47) (aa (gV n_20 1 s_14.2.1) (af (fB 0 rfl (bX 8 0 rfl rfl (bX 11 0 rfl rfl (bX 64 0 rfl rfl (bX 66 0 rfl rfl (fB 1 rfl (bX 9 1 rfl rfl (bX 12 1 rfl rfl (bX 67 1 rfl rfl ?_))))))))))))))))))
  obtain rfl:=ae hF
  exact aH (aN [(vL Placed.enc r_47),(vL eI s_14.2.1)] ⟨rfl,⟨rfl,trivial⟩⟩)
theorem EX {l_1:(List Log_)} {b_2:(List Beat)} {r:(List Play)×(List Int)×Int} (hF:qw l_1 b_2=some r) :
  FnM Tryz.prog 9 [(vL Log_.enc l_1),(vL Beat.enc b_2)] [] (.tup [(vL Play.enc r.1),(vL eI r.2.1),(vI r.2.2)]) []:=by
 refine FnM.of_wH ⟨Tryz.prog,118,[],[]⟩ rfl Tryz.func9 rfl rfl (lb_ rfl) (by kernel_rfl) ?_
 unfold qw at hF
 refine aj (aa .nil (aa .nil (aa (vI 0) (af (au (aj (aa (vL Log_.enc l_1) ?_)))))))
 obtain ⟨r_3,hr_4,hF⟩:=bind_some hF
 refine aC (Af hr_4) rfl hb25 rfl rfl rfl rfl wz (aa (vI r_3) (af (aj (aa (vI r_3) (aa (vB (r_3 != 0)) (af ?_))))))
 rcases ak hF with⟨hc_5,hF⟩|⟨hc_5,hF⟩
 ·refine aA rfl hc_5 (aj (aa (vI r_3) (aa .nil (aa .nil (aa (vI r_3) (af ?_))))))
  obtain rfl:=ae hF
  exact aH (aN [.nil,.nil,(vI r_3)] ⟨rfl,⟨rfl,⟨rfl,trivial⟩⟩⟩)
 ·refine ay rfl hc_5 (ax (au (aj (aa (vL Beat.enc b_2) ?_))))
  obtain ⟨r_6,hr_7,hF⟩:=bind_some hF
  refine aC (rE hr_7) rfl hb26 rfl rfl rfl rfl wz (aa (vI r_6) (af (aj (aa (vI r_6) (aa (vB (r_6 != 0)) (af ?_))))))
  rcases ak hF with⟨hc_8,hF⟩|⟨hc_8,hF⟩
  ·refine aA rfl hc_8 (aj (aa (vI r_6) (aa .nil (aa .nil (aa (vI r_6) (af ?_))))))
   obtain rfl:=ae hF
   exact aH (aN [.nil,.nil,(vI r_6)] ⟨rfl,⟨rfl,⟨rfl,trivial⟩⟩⟩)
  ·refine ay rfl hc_8 (ax (aj (aa .nil (af (aj (aa .nil (af (au (aj (aa (vI 0) (aa (vI 0) (af (jH (λn_15=>jH (λn_16 => ?_)))))))))))))))
   obtain ⟨o_23,hj_24,hF⟩:=bind_some hF
   obtain ⟨nq_83,hj_24⟩:=cK hj_24
   refine sV (σ:=(List Play)×(List Int)×Int) (N:=Nm×Nm) (λp=>(λ(s_14:(List Play)×(List Int)×Int) (n_19:Nm) (n_20:Nm)=>([(9,(gV n_19 4 s_14.1)),(10,(gV n_20 1 s_14.2.1))]:SL_)) p.1 p.2.1 p.2.2) (λp=>(λ(s_14:(List Play)×(List Int)×Int) (n_19:Nm) (n_20:Nm)=>([(n_19,gB 4 Play.enc s_14.1),(n_20,gB 1 eI s_14.2.1)]:Hp)) p.1 p.2.1 p.2.2) (λ(k_9:Nat)=>(λp=>(λ(s_14:(List Play)×(List Int)×Int) (n_19:Nm) (n_20:Nm)=>([(0,(vL Log_.enc l_1)),(1,(vL Beat.enc b_2)),(9,(gV n_19 4 s_14.1)),(10,(gV n_20 1 s_14.2.1)),(11,(vI s_14.2.2))]:SL_)) p.1 p.2.1 p.2.2)) (λs=>jo l_1 b_2 s) o_23 nq_83 ((([]:List Play),([]:List Int),0),n_15,n_16) hj_24 rfl (aK rfl) ?_ ?_
   ·rintro ⟨k_9,s_14,n_19,n_20⟩ hL_22
    dsimp only at hL_22
    cases k_9 with
    | zero=>cases hL_22
    | succ k_9 =>
     obtain ⟨c_,hc_21,hL_22⟩:=bind_some hL_22
     unfold jo at hc_21
     refine au (aj (aa (vI s_14.2.2) (aa (vL Log_.enc l_1) (dx Lx rfl wz (aa (vB (decide (s_14.2.2<(l_1.length:Int)))) (af ?_))))))
     rcases ak hc_21 with⟨hc_25,hc_21⟩|⟨hc_25,hc_21⟩
     ·refine aA rfl hc_25 (ax (au (aQ (au (aj (aa (vI s_14.2.2) (aa (vI s_14.2.2) (af ?_))))))))
      obtain ⟨o_34,hj_35,hc_21⟩:=bind_some hc_21
      obtain ⟨nq_79,hj_35⟩:=cK hj_35
      refine fo (λ(s_31:Int)=>[(0,(vL Log_.enc l_1)),(1,(vL Beat.enc b_2)),(9,(gV n_19 4 s_14.1)),(10,(gV n_20 1 s_14.2.1)),(11,(vI s_14.2.2)),(12,(vI s_31))]) (λ(s_31:Int)=>[(n_19,gB 4 Play.enc s_14.1),(n_20,gB 1 eI s_14.2.1)]) (λ(k_26:Nat)=>(λ(s_31:Int)=>[(0,(vL Log_.enc l_1)),(1,(vL Beat.enc b_2)),(9,(gV n_19 4 s_14.1)),(10,(gV n_20 1 s_14.2.1)),(11,(vI s_14.2.2)),(12,(vI s_31))])) (λs=>jq l_1 s_14 s) o_34 nq_79 s_14.2.2 hj_35 rfl (aK rfl) ?_ ?_
      ·rintro ⟨k_26,s_31⟩ hL_33
       dsimp only at hL_33
       cases k_26 with
       | zero=>cases hL_33
       | succ k_26 =>
        obtain ⟨c_,hc_32,hL_33⟩:=bind_some hL_33
        unfold jq at hc_32
        refine au (au ?_)
        obtain ⟨v_36,h_37,hc_32⟩:=bind_some hc_32
        refine aS [(0,(vL Log_.enc l_1)),(1,(vL Beat.enc b_2)),(9,(gV n_19 4 s_14.1)),(10,(gV n_20 1 s_14.2.1)),(11,(vI s_14.2.2)),(12,(vI s_31)),(53,(vB v_36))] [(n_19,gB 4 Play.enc s_14.1),(n_20,gB 1 eI s_14.2.1)] ?_ ?_
        ·refine bE (aa (vI s_31) (aa (vL Log_.enc l_1) (dx Lx rfl wz (aa (vB (decide (s_31<(l_1.length:Int)))) ?_))))
         rcases ak h_37 with⟨hc_38,h_37⟩|⟨hc_38,h_37⟩
         ·refine aI rfl hc_38 wz (aM (vL Log_.enc l_1) wa rfl (aM (vI s_31) wa rfl ?_))
          obtain ⟨y_39,hy_40,h_37⟩:=bind_some h_37
          refine dW Bd rfl rfl hy_40 rfl wa (kP uI rfl [.str y_39.Player,.str y_39.Item,.int .i64 y_39.No,.int .i64 y_39.Clock,.int .i64 y_39.Long,.str y_39.Sum] rfl rfl wa (bK sz9 ag9 rfl (vS y_39.Player) rfl wa (aM (vL Log_.enc l_1) wa rfl (aM (vI s_14.2.2) wa rfl ?_))))
          obtain ⟨y_41,hy_42,h_37⟩:=bind_some h_37
          refine dW Bd rfl rfl hy_42 rfl wa (kP uI rfl [.str y_41.Player,.str y_41.Item,.int .i64 y_41.No,.int .i64 y_41.Clock,.int .i64 y_41.Long,.str y_41.Sum] rfl rfl wa (bK sz9 ag9 rfl (vS y_41.Player) rfl wa (aM (vB (sEq y_39.Player y_41.Player)) wa rfl (aa (vB (sEq y_39.Player y_41.Player)) (af ?_)))))
          obtain rfl:=ae h_37
          exact cu
         ·refine aI rfl hc_38 wz (ah (ah (ah (ah (ah (ah (ah (ah (ah (ah (ah (aa (vB false) (af ?_)))))))))))))
          obtain rfl:=ae h_37
          exact cu
        ·rintro ⟨⟩ _ sl_ H_ hp_ hq_
         refine aO _ hp_ hq_ ?_
         rcases ak hc_32 with⟨hc_43,hc_32⟩|⟨hc_43,hc_32⟩
         ·refine aA rfl hc_43 (ax (aQ (av (aa (vI s_31) (aa (vI (w64 (s_31+1))) (aa (vI (w64 (s_31+1))) (af ?_)))))))
          obtain rfl:=ae hc_32
          exact aY (k_26,(w64 (s_31+1))) hL_33 (ls_ _) rfl (aK rfl)
         ·refine ay rfl hc_43 (aX ?_)
          obtain rfl:=ae hc_32
          obtain rfl:=ae hL_33
          exact aV (s_31) rfl rfl (aK rfl)
      ·rintro s_31 ho_ sl_ H_ hp_ hq_
       subst ho_
       refine aO _ hp_ hq_ (aj (aa (vL Log_.enc l_1) (aa (vI s_14.2.2) (aa (vI s_31) (aa (vL Beat.enc b_2) ?_)))))
       obtain ⟨r_44,hr_45,hc_21⟩:=bind_some hc_21
       refine aC (AO hr_45) rfl hb27 rfl rfl rfl rfl wz (aa (.tup [(vL Placed.enc r_44.1),(vL eI r_44.2)]) (aa (vL Placed.enc r_44.1) (aa (vL eI r_44.2) (aa (vL Placed.enc r_44.1) (aa (vL eI r_44.2) (af (aj (aa (gV n_20 1 s_14.2.1) (aa (vL eI r_44.2) ?_)))))))))
       obtain ⟨a_46,hz_47,hc_21⟩:=bind_some hc_21
       refine jh 0 il ft (i:=1) Cc Cc sz3 z3 rfl (by decide) by3 (by decide) (λ_=>rfl) rfl rfl rfl hz_47 wz (λn_48=>aa (gV n_48 1 a_46) (af (aj (aa (vI 0) (af (aj (aa (vL Placed.enc r_44.1) (dx un78 rfl wz (aa (vI 0) (af ?_))))))))))
       obtain ⟨o_61,hj_62,hc_21⟩:=bind_some hc_21
       obtain ⟨hn_53,hj_62⟩:=bI hj_62
       refine iw (σ:=(List Play)×(List Int)×Int) (N:=Nm×Nm) (λp=>(λ(s_54:(List Play)×(List Int)×Int) (n_57:Nm) (n_58:Nm)=>([(0,(vL Log_.enc l_1)),(1,(vL Beat.enc b_2)),(9,(gV n_57 4 s_54.1)),(10,(gV n_58 1 s_54.2.1)),(12,(vI s_31))]:SL_)) p.1 p.2.1 p.2.2) (λp=>(λ(s_54:(List Play)×(List Int)×Int) (n_57:Nm) (n_58:Nm)=>([(n_57,gB 4 Play.enc s_54.1),(n_58,gB 1 eI s_54.2.1)]:Hp)) p.1 p.2.1 p.2.2) (λ(k_49:Nat)=>(λp=>(λ(s_54:(List Play)×(List Int)×Int) (n_57:Nm) (n_58:Nm)=>([(0,(vL Log_.enc l_1)),(1,(vL Beat.enc b_2)),(9,(gV n_57 4 s_54.1)),(10,(gV n_58 1 s_54.2.1)),(12,(vI s_31)),(15,(vI s_54.2.2)),(67,(vL Placed.enc r_44.1)),(68,(vI (r_44.1.length:Int))),(69,(vI (k_49:Int)))]:SL_)) p.1 p.2.1 p.2.2)) (λk x s=>kW l_1 k x s) o_61 r_44.1 ((s_14.1,a_46,0),n_19,n_48) hj_62 rfl (aK rfl) ?_ ?_
       ·rintro ⟨k_49,l_50,s_54,n_57,n_58⟩ ⟨hL_60,hD_52⟩
        dsimp only at hL_60 hD_52
        cases l_50 with
        | nil =>
         obtain rfl:=ae hL_60
         refine aj (aa (vB (decide ((k_49:Int)<(r_44.1.length:Int)))) (af ?_))
         refine au (ay rfl (drop_nil hD_52) (aX ?_))
         exact aV (s_54,n_57,n_58) rfl rfl (aK rfl)
        | cons x_51 l_50 =>
         obtain ⟨c_,hc_59,hL_60⟩:=bind_some hL_60
         refine aj (aa (vB (decide ((k_49:Int)<(r_44.1.length:Int)))) (af ?_))
         refine au (aA rfl (bO hD_52) (ax ?_))
         unfold kW at hc_59
         refine au (aQ (aj (dW Jw rfl rfl (bU hD_52) rfl wz (bK GV PM rfl (.d (.agg (Placed.enc x_51))) rfl wz (dC 0 (.inl rfl) z82 rfl wz (λn_63=>fA 0 il ft 2 GV rfl rfl [(vI x_51.f_i),(vI x_51.f_at)] rfl wz (af (aj (aa (vL Log_.enc l_1) (aJ Rv rfl 0 rfl wz (aB 0 2 il ft sz3 ag3 rfl rfl (vI x_51.f_i) rfl wz ?_)))))))))))
         obtain ⟨y_64,hy_65,hc_59⟩:=bind_some hc_59
         refine dW Bd rfl rfl hy_65 rfl wz (bK Ay Jl rfl (.d (.agg (Log_.enc y_64))) rfl wz (dC 0 (.inl rfl) z46 rfl wz (λn_66=>fA 0 il ft 3 Ay rfl rfl (Log_.v y_64) rfl wz (af (au (bE (aJ I7 rfl 1 rfl wz (aB 1 2 (.inr (by kernel_rfl)) (λ_ _ ag=>trivial) sz3 ag3 rfl rfl (vI x_51.f_at) rfl wz (aa (vI s_54.2.2) (ni (vI (fZ x_51.f_at s_54.2.2)) rfl (.inr rfl) wz (aJ I7 rfl 1 rfl wz (aB 5 2 (.inr (by kernel_rfl)) (λ_ _ ag=>⟨.inl ⟨rfl,rfl⟩,trivial⟩) sz3 ag3 rfl rfl (vI x_51.f_at) rfl wz (aJ LH rfl 4 rfl wz (aB 7 3 (.inr (by kernel_rfl)) (λ_ _ ag=>⟨.inl ⟨rfl,rfl⟩,⟨.inl ⟨rfl,rfl⟩,trivial⟩⟩) sz3 ag3 rfl rfl (vI y_64.Long) rfl wz (aa (vI (w64 (x_51.f_at+y_64.Long))) (aa (vI (fZ x_51.f_at s_54.2.2)) (aa (vI (w64 (x_51.f_at+y_64.Long))) (af (au (au ?_))))))))))))))))))))
         obtain ⟨v_67,h_68,hc_59⟩:=bind_some hc_59
         refine aS [(0,(vL Log_.enc l_1)),(1,(vL Beat.enc b_2)),(9,(gV n_57 4 s_54.1)),(10,(gV n_58 1 s_54.2.1)),(12,(vI s_31)),(15,(vI s_54.2.2)),(17,(.ref n_63 0 0)),(18,(.ref n_66 0 0)),(19,(vI (fZ x_51.f_at s_54.2.2))),(20,(vI (w64 (x_51.f_at+y_64.Long)))),(67,(vL Placed.enc r_44.1)),(68,(vI (r_44.1.length:Int))),(69,(vI (k_49:Int))),(94,(vB v_67))] [(n_57,gB 4 Play.enc s_54.1),(n_58,gB 1 eI s_54.2.1),(n_63,some (.cells 2 [(vI x_51.f_i),(vI x_51.f_at)])),(n_66,some (.cells 6 (Log_.v y_64)))] ?_ ?_
         ·refine av (aa (vI (fZ x_51.f_at s_54.2.2)) (aa (vI (w64 (x_51.f_at+y_64.Long))) (aa (vB (decide ((fZ x_51.f_at s_54.2.2)>=(w64 (x_51.f_at+y_64.Long))))) ?_)))
          rcases ak h_68 with⟨hc_69,h_68⟩|⟨hc_69,h_68⟩
          ·refine aI rfl hc_69 wz (ah (ah (ah (aa (vB true) (af ?_)))))
           obtain rfl:=ae h_68
           exact cu
          ·refine aI rfl hc_69 wz (aM (vI (fZ x_51.f_at s_54.2.2)) wa rfl ?_)
           obtain ⟨r_70,hr_71,h_68⟩:=bind_some h_68
           refine aC (gZ hr_71) rfl Ja rfl rfl rfl rfl wa (aM (vB (!r_70)) wa rfl (aa (vB (!r_70)) (af ?_)))
           obtain rfl:=ae h_68
           exact cu
         ·rintro ⟨⟩ _ sl_ H_ hp_ hq_
          refine aO _ hp_ hq_ ?_
          rcases ak hc_59 with⟨hc_72,hc_59⟩|⟨hc_72,hc_59⟩
          ·refine aA rfl hc_72 (aj (aa (gV n_58 1 s_54.2.1) (aJ Rv rfl 0 rfl wz (aB 0 2 il ft sz3 ag3 rfl rfl (vI x_51.f_i) rfl wz (eQ (([x_51.f_i]:List Int).map eI) lC wJ rfl rfl rfl rfl rfl wz ?_)))))
           obtain ⟨a_73,hz_74,hc_59⟩:=bind_some hc_59
           refine jh 0 il ft (i:=1) Cc Cc sz3 z3 rfl (by decide) by3 (by decide) (λ_=>rfl) rfl rfl rfl hz_74 wz (λn_75=>aa (gV n_75 1 a_73) (af (aX (av (fQ (bN hD_52 hn_53) wz rfl (aa (vI ((k_49+1:Nat):Int)) (af ?_)))))))
           obtain rfl:=ae hc_59
           exact aY (k_49+1,l_50,(s_54.1,a_73,s_54.2.2),n_57,n_75) ⟨hL_60,aW hD_52⟩ (ls_ _) rfl (aK rfl)
          ·refine ay rfl hc_72 (ax (aj (aa (gV n_57 4 s_54.1) (aJ uI rfl 0 rfl wz (aB 0 3 il ft sz9 ag9 rfl rfl (vS y_64.Player) rfl wz (aJ L8 rfl 1 rfl wz (aB 0 3 il ft sz9 ag9 rfl rfl (vS y_64.Item) rfl wz (aa (vI (fZ x_51.f_at s_54.2.2)) (aa (vI (w64 (x_51.f_at+y_64.Long))) (aa (vI (fZ x_51.f_at s_54.2.2)) (aa (vI (w64 ((w64 (x_51.f_at+y_64.Long))-(fZ x_51.f_at s_54.2.2)))) (aM (.d (.agg (Play.enc (⟨y_64.Player,y_64.Item,(fZ x_51.f_at s_54.2.2),(w64 ((w64 (x_51.f_at+y_64.Long))-(fZ x_51.f_at s_54.2.2)))⟩:Play)))) wz (by kernel_rfl) (eQ (([(⟨y_64.Player,y_64.Item,(fZ x_51.f_at s_54.2.2),(w64 ((w64 (x_51.f_at+y_64.Long))-(fZ x_51.f_at s_54.2.2)))⟩:Play)]:List Play).map Play.enc) RD ez49 rfl rfl rfl rfl rfl wz ?_)))))))))))))
           obtain ⟨a_76,hz_77,hc_59⟩:=bind_some hc_59
           refine jh 0 il ft (i:=0) el49 el49 Jp z58 rfl (by decide) by58 (by decide) (λ_=>rfl) rfl rfl rfl hz_77 wz (λn_78=>aa (gV n_78 4 a_76) (af (av (aa (vI (w64 (x_51.f_at+y_64.Long))) (aa (vI (w64 (x_51.f_at+y_64.Long))) (af (av (fQ (bN hD_52 hn_53) wz rfl (aa (vI ((k_49+1:Nat):Int)) (af ?_))))))))))
           obtain rfl:=ae hc_59
           exact aY (k_49+1,l_50,(a_76,s_54.2.1,(w64 (x_51.f_at+y_64.Long))),n_78,n_58) ⟨hL_60,aW hD_52⟩ (ls_ _) rfl (aK rfl)
       ·rintro ⟨s_54,n_57,n_58⟩ ho_ sl_ H_ hp_ hq_
        subst ho_
        refine aO _ hp_ hq_ (av (aa (vI s_31) (aa (vI s_31) (af ?_))))
        obtain rfl:=ae hc_21
        exact aY (k_9,(s_54.1,s_54.2.1,s_31),n_57,n_58) hL_22 (ls_ _) rfl (aK rfl)
     ·refine ay rfl hc_25 (aX ?_)
      obtain rfl:=ae hc_21
      obtain rfl:=ae hL_22
      exact aV ((s_14.1,s_14.2.1,s_14.2.2),n_19,n_20) rfl rfl (aK rfl)
   ·rintro ⟨s_14,n_19,n_20⟩ ho_ sl_ H_ hp_ hq_
    subst ho_
    refine aO _ hp_ hq_ (aj (aa (gV n_20 1 s_14.2.1) ?_))
    obtain ⟨r_80,hr_81,hF⟩:=bind_some hF
    obtain ⟨_,hs_82,hF⟩:=bind_some hF
    replace hs_82:=lQ hs_82
    refine lL 0 [] 1 0 il ft (ko hr_81) rfl hb29 rfl rfl rfl (by kernel_rfl) rfl (.inl rfl) rfl (by kernel_rfl) (by kernel_rfl) (by kernel_rfl) (by kernel_rfl) rfl (by decide) (by kernel_rfl) nU (vD hs_82) wz ([(n_19,gB 4 Play.enc s_14.1),(n_20,gB 1 eI r_80)]:Hp) (by kernel_rfl) (dU (v':=(gV n_20 1 r_80)) 10 rfl (jm hs_82.symm) (dU (v':=(gV n_20 1 r_80)) 114 rfl (jm hs_82.symm) (af (aj (aa (gV n_19 4 s_14.1) (aa (gV n_20 1 r_80) (aa (gV n_19 4 s_14.1) (aa (gV n_20 1 r_80) (aa (vI 0) (af (fB 0 rfl (bX 4 0 rfl rfl (bX 9 0 rfl rfl (bX 116 0 rfl rfl (fB 1 rfl (bX 5 1 rfl rfl (bX 10 1 rfl rfl (bX 114 1 rfl rfl (bX 117 1 rfl rfl ?_)))))))))))))))))))
    obtain rfl:=ae hF
    exact aH (aN [(vL Play.enc s_14.1),(vL eI r_80),(vI 0)] ⟨rfl,⟨rfl,⟨rfl,trivial⟩⟩⟩)
theorem xE {a_1:Play} {b_2:Play} {r:Int} (hF:jX a_1 b_2=some r) :
  FnM Tryz.prog 63 [(.d (.agg (Play.enc a_1))),(.d (.agg (Play.enc b_2)))] [] (vI r) []:=by
 refine FnM.of_wH ⟨Tryz.prog,17,[],[]⟩ rfl Tryz.func63 rfl rfl (lb_ rfl) (by kernel_rfl) ?_
 unfold jX at hF
 refine aj (d9 0 (.inl rfl) (Play.v a_1) rfl rfl wz (λn_3=>d9 0 (.inl rfl) (Play.v b_2) rfl rfl wz (λn_4=>aa (vI 0) (af (au (bE (aJ IW rfl 0 rfl wz (aB 1 0 (.inr (by kernel_rfl)) (λ_ _ ag=>trivial) sz9 ag9 rfl rfl (vS a_1.Player) rfl wz (aJ IW rfl 0 rfl wz (aB 3 1 (.inr (by kernel_rfl)) (λ_ _ ag=>⟨.inl ⟨rfl,rfl⟩,trivial⟩) sz9 ag9 rfl rfl (vS b_2.Player) rfl wz ?_))))))))))
 obtain ⟨r_5,hr_6,hF⟩:=bind_some hF
 refine aC (lN hr_6) rfl hb80 rfl rfl rfl rfl wz (aJ BZ rfl 2 rfl wz (aB 6 0 (.inr (by kernel_rfl)) (λ_ _ ag=>⟨.inl ⟨rfl,rfl⟩,⟨.inl ⟨rfl,rfl⟩,trivial⟩⟩) sz3 ag3 rfl rfl (vI a_1.At) rfl wz (aJ BZ rfl 2 rfl wz (aB 8 1 (.inr (by kernel_rfl)) (λ_ _ ag=>⟨.inl ⟨rfl,rfl⟩,⟨.inl ⟨rfl,rfl⟩,⟨.inl ⟨rfl,rfl⟩,trivial⟩⟩⟩) sz3 ag3 rfl rfl (vI b_2.At) rfl wz ?_))))
 obtain ⟨r_7,hr_8,hF⟩:=bind_some hF
 refine aC (ic hr_8) rfl LP rfl rfl rfl rfl wz (eQ (([r_5,r_7]:List Int).map eI) lC wJ rfl rfl rfl rfl rfl wz ?_)
 obtain ⟨r_9,hr_10,hF⟩:=bind_some hF
 refine aC (qd hr_10) rfl hb79 rfl rfl rfl rfl wz (aa (vI r_9) (af ?_))
 obtain rfl:=ae hF
 exact aH (aN [(vI r_9)] ⟨rfl,trivial⟩)
theorem zl {l_1:(List Play)} {r:Int} (hF:jN l_1=some r) :
  FnM Tryz.prog 30 [(vL Play.enc l_1)] [] (vI r) []:=by
 refine FnM.of_wH ⟨Tryz.prog,50,[],[]⟩ rfl Tryz.func30 rfl rfl (lb_ rfl) (by kernel_rfl) ?_
 unfold jN at hF
 refine aj (aa (vI 0) (af (au (aj (aa (vL Play.enc l_1) (dx un49 rfl wz (aa (vB (decide ((l_1.length:Int)>3000))) (af ?_))))))))
 rcases ak hF with⟨hc_2,hF⟩|⟨hc_2,hF⟩
 ·refine aA rfl hc_2 (aj (aa (vI 2) (af ?_)))
  obtain rfl:=ae hF
  exact aH (aN [(vI 2)] ⟨rfl,trivial⟩)
 ·refine ay rfl hc_2 (ax (au (aj (aa (vL Play.enc l_1) (dx un49 rfl wz (aa (vI 0) (af ?_)))))))
  obtain ⟨o_11,hj_12,hF⟩:=bind_some hF
  obtain ⟨hn_7,hj_12⟩:=bI hj_12
  refine fH (λ(s_8:Unit)=>[]) (λ(s_8:Unit)=>[]) (λ(k_3:Nat)=>(λ(s_8:Unit)=>[(0,(vL Play.enc l_1)),(8,(vL Play.enc l_1)),(9,(vI (l_1.length:Int))),(10,(vI (k_3:Int)))])) (λk x s=>jF l_1 k x s) o_11 l_1 () hj_12 rfl (aK rfl) ?_ ?_
  ·rintro ⟨k_3,l_4,s_8⟩ ⟨hL_10,hD_6⟩
   dsimp only at hL_10 hD_6
   cases l_4 with
   | nil =>
    obtain rfl:=ae hL_10
    refine aj (aa (vB (decide ((k_3:Int)<(l_1.length:Int)))) (af ?_))
    refine au (ay rfl (drop_nil hD_6) (aX ?_))
    exact aV (s_8) rfl rfl (aK rfl)
   | cons x_5 l_4 =>
    obtain ⟨c_,hc_9,hL_10⟩:=bind_some hL_10
    refine aj (aa (vB (decide ((k_3:Int)<(l_1.length:Int)))) (af ?_))
    refine au (aA rfl (bO hD_6) (ax ?_))
    unfold jF at hc_9
    refine au (aQ (aj (aa (vI (k_3:Int)) (dW RD rfl rfl (bU hD_6) rfl wz (bK Jp RJ rfl (.d (.agg (Play.enc x_5))) rfl wz (dC 0 (.inl rfl) z58 rfl wz (λn_13=>aa (vI (k_3:Int)) (fA 0 il ft 0 Jp rfl rfl (Play.v x_5) rfl wz (af (aQ (au ?_)))))))))))
    obtain ⟨v_14,h_15,hc_9⟩:=bind_some hc_9
    refine aS [(0,(vL Play.enc l_1)),(3,(vI (k_3:Int))),(4,(.ref n_13 0 0)),(8,(vL Play.enc l_1)),(9,(vI (l_1.length:Int))),(10,(vI (k_3:Int))),(15,(vB v_14))] [(n_13,some (.cells 4 (Play.v x_5)))] ?_ ?_
    ·refine av (aJ IW rfl 0 rfl wz (aB 0 0 il ft sz9 ag9 rfl rfl (vS x_5.Player) rfl wz ?_))
     obtain ⟨r_16,hr_17,h_15⟩:=bind_some h_15
     refine aC (fw hr_17) rfl AZ rfl rfl rfl rfl wz (aa (vB (!r_16)) ?_)
     rcases ak h_15 with⟨hc_18,h_15⟩|⟨hc_18,h_15⟩
     ·refine aI rfl hc_18 wz (ah (ah (ah (ah (aa (vB true) (aa (vB true) (af ?_)))))))
      obtain rfl:=ae h_15
      exact cu
     ·refine aI rfl hc_18 wz (aJ QU rfl 1 rfl wa (aB 0 0 il ft sz9 ag9 rfl rfl (vS x_5.Item) rfl wa ?_))
      obtain ⟨r_19,hr_20,h_15⟩:=bind_some h_15
      refine aC (fw hr_20) rfl AZ rfl rfl rfl rfl wa (aM (vB (!r_19)) wa rfl (aa (vB (!r_19)) (aa (vB (!r_19)) (af ?_))))
      obtain rfl:=ae h_15
      exact cu
    ·rintro ⟨⟩ _ sl_ H_ hp_ hq_
     refine aO _ hp_ hq_ ?_
     rcases ak hc_9 with⟨hc_21,hc_9⟩|⟨hc_21,hc_9⟩
     ·refine aA rfl hc_21 (aj (aa (vI 5) (af ?_)))
      obtain rfl:=ae hc_9
      obtain rfl:=ae hL_10
      obtain rfl:=ae hF
      exact aH (aN [(vI 5)] ⟨rfl,trivial⟩)
     ·refine ay rfl hc_21 (au ?_)
      obtain ⟨v_22,h_23,hc_9⟩:=bind_some hc_9
      refine aS [(0,(vL Play.enc l_1)),(3,(vI (k_3:Int))),(4,(.ref n_13 0 0)),(8,(vL Play.enc l_1)),(9,(vI (l_1.length:Int))),(10,(vI (k_3:Int))),(26,(vB v_22))] [(n_13,some (.cells 4 (Play.v x_5)))] ?_ ?_
      ·refine av (aJ BZ rfl 2 rfl wz (aB 0 0 il ft sz3 ag3 rfl rfl (vI x_5.At) rfl wz ?_))
       obtain ⟨r_24,hr_25,h_23⟩:=bind_some h_23
       refine aC (gZ hr_25) rfl Ja rfl rfl rfl rfl wz (aa (vB (!r_24)) ?_)
       rcases ak h_23 with⟨hc_26,h_23⟩|⟨hc_26,h_23⟩
       ·refine aI rfl hc_26 wz (ah (ah (ah (aa (vB true) (aa (vB true) (af ?_))))))
        obtain rfl:=ae h_23
        exact cu
       ·refine aI rfl hc_26 wz (aJ Qz rfl 3 rfl wa (aB 0 0 il ft sz3 ag3 rfl rfl (vI x_5.Long) rfl wa ?_))
        obtain ⟨r_27,hr_28,h_23⟩:=bind_some h_23
        refine aC (bD hr_28) rfl rT rfl rfl rfl rfl wa (aa (vB r_27) (aa (vB r_27) (af ?_)))
        obtain rfl:=ae h_23
        exact cu
      ·rintro ⟨⟩ _ sl_ H_ hp_ hq_
       refine aO _ hp_ hq_ ?_
       rcases ak hc_9 with⟨hc_29,hc_9⟩|⟨hc_29,hc_9⟩
       ·refine aA rfl hc_29 (aj (aa (vI 1) (af ?_)))
        obtain rfl:=ae hc_9
        obtain rfl:=ae hL_10
        obtain rfl:=ae hF
        exact aH (aN [(vI 1)] ⟨rfl,trivial⟩)
       ·refine ay rfl hc_29 (au ?_)
        obtain ⟨v_30,h_31,hc_9⟩:=bind_some hc_9
        refine aS [(0,(vL Play.enc l_1)),(8,(vL Play.enc l_1)),(9,(vI (l_1.length:Int))),(10,(vI (k_3:Int))),(36,(vB v_30))] [(n_13,some (.cells 4 (Play.v x_5)))] ?_ ?_
        ·refine bE (aa (vI (k_3:Int)) (aa (vB (decide ((k_3:Int)>0))) ?_))
         rcases ak h_31 with⟨hc_32,h_31⟩|⟨hc_32,h_31⟩
         ·refine aI rfl hc_32 wz (aM (vL Play.enc l_1) wa rfl (aM (vI (k_3:Int)) wa rfl (aM (vI (w64 ((k_3:Int)-1))) wa rfl ?_)))
          obtain ⟨y_33,hy_34,h_31⟩:=bind_some h_31
          refine dW RD rfl rfl hy_34 rfl wa (bK Jp RJ rfl (.d (.agg (Play.enc y_33))) rfl wa (aB 8 0 (.inr (by kernel_rfl)) (λ_ _ ag=>trivial) Jp RJ rfl rfl (.d (.agg (Play.enc x_5))) rfl wa ?_))
          obtain ⟨r_35,hr_36,h_31⟩:=bind_some h_31
          refine aC (xE hr_36) rfl hb63 rfl rfl rfl rfl wa (aM (vB (decide (r_35>=0))) wa rfl (aa (vB (decide (r_35>=0))) (aa (vB (decide (r_35>=0))) (af ?_))))
          obtain rfl:=ae h_31
          exact cu
         ·refine aI rfl hc_32 wz (ah (ah (ah (ah (ah (ah (ah (ah (aa (vB false) (aa (vB false) (af ?_)))))))))))
          obtain rfl:=ae h_31
          exact cu
        ·rintro ⟨⟩ _ sl_ H_ hp_ hq_
         refine aO _ hp_ hq_ ?_
         rcases ak hc_9 with⟨hc_37,hc_9⟩|⟨hc_37,hc_9⟩
         ·refine aA rfl hc_37 (aj (aa (vI 7) (af ?_)))
          obtain rfl:=ae hc_9
          obtain rfl:=ae hL_10
          obtain rfl:=ae hF
          exact aH (aN [(vI 7)] ⟨rfl,trivial⟩)
         ·refine ay rfl hc_37 (ax (av (fQ (bN hD_6 hn_7) wz rfl (aa (vI ((k_3+1:Nat):Int)) (af ?_)))))
          obtain rfl:=ae hc_9
          exact aY (k_3+1,l_4,()) ⟨hL_10,aW hD_6⟩ (ls_ _) rfl (aK rfl)
  ·rintro s_8 ho_ sl_ H_ hp_ hq_
   subst ho_
   refine aO _ hp_ hq_ (aj (aa (vI 0) (af ?_)))
   obtain rfl:=ae hF
   exact aH (aN [(vI 0)] ⟨rfl,trivial⟩)
theorem GR {l_1:(List Play)} {player_2:ByteArray} {wv_3:Window} {r:(List Window)×Int} (hF:tK l_1 player_2 wv_3=some r) :
  FnM Tryz.prog 10 [(vL Play.enc l_1),(vS player_2),(.d (.agg (Window.enc wv_3)))] [] (.tup [(vL Window.enc r.1),(vI r.2)]) []:=by
 refine FnM.of_wH ⟨Tryz.prog,84,[],[]⟩ rfl Tryz.func10 rfl rfl (lb_ rfl) (by kernel_rfl) ?_
 unfold tK at hF
 refine aj (d9 0 (.inl rfl) [(vI wv_3.From),(vI wv_3.To)] rfl rfl wz (λn_4=>aa .nil (aa (vI 0) (af (au (aj (aa (vL Play.enc l_1) ?_)))))))
 obtain ⟨r_5,hr_6,hF⟩:=bind_some hF
 refine aC (zl hr_6) rfl hb30 rfl rfl rfl rfl wz (aa (vI r_5) (af (aj (aa (vI r_5) (aa (vB (r_5 != 0)) (af ?_))))))
 rcases ak hF with⟨hc_7,hF⟩|⟨hc_7,hF⟩
 ·refine aA rfl hc_7 (aj (aa (vI r_5) (aa .nil (aa (vI r_5) (af ?_)))))
  obtain rfl:=ae hF
  exact aH (aN [.nil,(vI r_5)] ⟨rfl,⟨rfl,trivial⟩⟩)
 ·refine ay rfl hc_7 (ax (au (aj (aa (vS player_2) ?_))))
  obtain ⟨r_8,hr_9,hF⟩:=bind_some hF
  refine aC (fw hr_9) rfl AZ rfl rfl rfl rfl wz (aa (vB (!r_8)) (af ?_))
  rcases ak hF with⟨hc_10,hF⟩|⟨hc_10,hF⟩
  ·refine aA rfl hc_10 (aj (aa .nil (aa (vI 5) (af ?_))))
   obtain rfl:=ae hF
   exact aH (aN [.nil,(vI 5)] ⟨rfl,⟨rfl,trivial⟩⟩)
  ·refine ay rfl hc_10 (ax (au (au ?_)))
   obtain ⟨v_11,h_12,hF⟩:=bind_some hF
   refine aS [(0,(vL Play.enc l_1)),(1,(vS player_2)),(5,(.ref n_4 0 0)),(31,(vB v_11))] [(n_4,some (.cells 2 [(vI wv_3.From),(vI wv_3.To)]))] ?_ ?_
   ·refine av (aJ iI rfl 0 rfl wz (aB 0 0 il ft sz3 ag3 rfl rfl (vI wv_3.From) rfl wz (aJ iK rfl 1 rfl wz (aB 0 0 il ft sz3 ag3 rfl rfl (vI wv_3.To) rfl wz ?_))))
    obtain ⟨r_13,hr_14,h_12⟩:=bind_some h_12
    refine aC (bD hr_14) rfl rT rfl rfl rfl rfl wz ?_
    rcases ak h_12 with⟨hc_15,h_12⟩|⟨hc_15,h_12⟩
    ·refine aI rfl hc_15 wz (ah (ah (ah (aa (vB true) (af ?_)))))
     obtain rfl:=ae h_12
     exact cu
    ·refine aI rfl hc_15 wz (aJ iK rfl 1 rfl wa (aB 0 0 il ft sz3 ag3 rfl rfl (vI wv_3.To) rfl wa (aM (vB (decide (wv_3.To>345686400000))) wa rfl (aa (vB (decide (wv_3.To>345686400000))) (af ?_)))))
     obtain rfl:=ae h_12
     exact cu
   ·rintro ⟨⟩ _ sl_ H_ hp_ hq_
    refine aO _ hp_ hq_ ?_
    rcases ak hF with⟨hc_16,hF⟩|⟨hc_16,hF⟩
    ·refine aA rfl hc_16 (aj (aa .nil (aa (vI 1) (af ?_))))
     obtain rfl:=ae hF
     exact aH (aN [.nil,(vI 1)] ⟨rfl,⟨rfl,trivial⟩⟩)
    ·refine ay rfl hc_16 (ax (aj (aa .nil (af (aj (aJ iI rfl 0 rfl wz (aB 0 0 il ft sz3 ag3 rfl rfl (vI wv_3.From) rfl wz (aa (vI wv_3.From) (af (au (aj (aa (vL Play.enc l_1) (dx un49 rfl wz (aa (vI 0) (af (jH (λn_23 => ?_)))))))))))))))))
     obtain ⟨o_28,hj_29,hF⟩:=bind_some hF
     obtain ⟨hn_21,hj_29⟩:=bI hj_29
     refine iw (σ:=(List Window)×Int) (N:=Nm) (λp=>(λ(s_22:(List Window)×Int) (n_25:Nm)=>([(5,(.ref n_4 0 0)),(9,(gV n_25 2 s_22.1)),(10,(vI s_22.2))]:SL_)) p.1 p.2) (λp=>(λ(s_22:(List Window)×Int) (n_25:Nm)=>([(n_4,some (.cells 2 [(vI wv_3.From),(vI wv_3.To)])),(n_25,gB 2 Window.enc s_22.1)]:Hp)) p.1 p.2) (λ(k_17:Nat)=>(λp=>(λ(s_22:(List Window)×Int) (n_25:Nm)=>([(1,(vS player_2)),(5,(.ref n_4 0 0)),(9,(gV n_25 2 s_22.1)),(10,(vI s_22.2)),(34,(vL Play.enc l_1)),(35,(vI (l_1.length:Int))),(36,(vI (k_17:Int)))]:SL_)) p.1 p.2)) (λk x s=>ma player_2 wv_3 k x s) o_28 l_1 ((([]:List Window),wv_3.From),n_23) hj_29 rfl (aK rfl) ?_ ?_
     ·rintro ⟨k_17,l_18,s_22,n_25⟩ ⟨hL_27,hD_20⟩
      dsimp only at hL_27 hD_20
      cases l_18 with
      | nil =>
       obtain rfl:=ae hL_27
       refine aj (aa (vB (decide ((k_17:Int)<(l_1.length:Int)))) (af ?_))
       refine au (ay rfl (drop_nil hD_20) (aX ?_))
       exact aV (s_22,n_25) rfl rfl (aK rfl)
      | cons x_19 l_18 =>
       obtain ⟨c_,hc_26,hL_27⟩:=bind_some hL_27
       refine aj (aa (vB (decide ((k_17:Int)<(l_1.length:Int)))) (af ?_))
       refine au (aA rfl (bO hD_20) (ax ?_))
       unfold ma at hc_26
       refine au (aQ (aj (dW RD rfl rfl (bU hD_20) rfl wz (bK Jp RJ rfl (.d (.agg (Play.enc x_19))) rfl wz (dC 0 (.inl rfl) z58 rfl wz (λn_30=>fA 0 il ft 2 Jp rfl rfl (Play.v x_19) rfl wz (af (au (au ?_)))))))))
       obtain ⟨v_31,h_32,hc_26⟩:=bind_some hc_26
       refine aS [(1,(vS player_2)),(5,(.ref n_4 0 0)),(9,(gV n_25 2 s_22.1)),(10,(vI s_22.2)),(12,(.ref n_30 0 0)),(34,(vL Play.enc l_1)),(35,(vI (l_1.length:Int))),(36,(vI (k_17:Int))),(49,(vB v_31))] [(n_4,some (.cells 2 [(vI wv_3.From),(vI wv_3.To)])),(n_25,gB 2 Window.enc s_22.1),(n_30,some (.cells 4 (Play.v x_19)))] ?_ ?_
       ·refine av (aJ IW rfl 0 rfl wz (aB 0 2 il ft sz9 ag9 rfl rfl (vS x_19.Player) rfl wz (aa (vS player_2) (aa (vB (sNe x_19.Player player_2)) ?_))))
        rcases ak h_32 with⟨hc_33,h_32⟩|⟨hc_33,h_32⟩
        ·refine aI rfl hc_33 wz (ah (ah (ah (ah (aa (vB true) (af ?_))))))
         obtain rfl:=ae h_32
         exact cu
        ·refine aI rfl hc_33 wz (aM (vI s_22.2) wa rfl (aJ iK rfl 1 rfl wa (aB 0 0 il ft sz3 ag3 rfl rfl (vI wv_3.To) rfl wa (aM (vB (decide (s_22.2>=wv_3.To))) wa rfl (aa (vB (decide (s_22.2>=wv_3.To))) (af ?_))))))
         obtain rfl:=ae h_32
         exact cu
       ·rintro ⟨⟩ _ sl_ H_ hp_ hq_
        refine aO _ hp_ hq_ ?_
        rcases ak hc_26 with⟨hc_34,hc_26⟩|⟨hc_34,hc_26⟩
        ·refine aA rfl hc_34 (aX (av (fQ (bN hD_20 hn_21) wz rfl (aa (vI ((k_17+1:Nat):Int)) (af ?_)))))
         obtain rfl:=ae hc_26
         exact aY (k_17+1,l_18,(s_22.1,s_22.2),n_25) ⟨hL_27,aW hD_20⟩ (ls_ _) rfl (aK rfl)
        ·refine ay rfl hc_34 (ax (au (aj (aJ BZ rfl 2 rfl wz (aB 0 2 il ft sz3 ag3 rfl rfl (vI x_19.At) rfl wz (aJ iK rfl 1 rfl wz (aB 0 0 il ft sz3 ag3 rfl rfl (vI wv_3.To) rfl wz (ni (vI (nP x_19.At wv_3.To)) rfl (.inl rfl) wz (aa (vI (nP x_19.At wv_3.To)) (af (aj (aa (vI (nP x_19.At wv_3.To)) (aa (vI s_22.2) (aa (vB (decide ((nP x_19.At wv_3.To)>s_22.2))) (af ?_)))))))))))))))
         obtain ⟨v_35,h_36,hc_26⟩:=bind_some hc_26
         refine jA (β:=Nm) (λ(n_37:Nm)=>([(1,(vS player_2)),(5,(.ref n_4 0 0)),(9,(gV n_37 2 v_35)),(10,(vI s_22.2)),(12,(.ref n_30 0 0)),(34,(vL Play.enc l_1)),(35,(vI (l_1.length:Int))),(36,(vI (k_17:Int)))]:SL_)) (λ(n_37:Nm)=>([(n_4,some (.cells 2 [(vI wv_3.From),(vI wv_3.To)])),(n_37,gB 2 Window.enc v_35),(n_30,some (.cells 4 (Play.v x_19)))]:Hp)) (λ_=>True) ?_ ?_
         ·rcases ak h_36 with⟨hc_38,h_36⟩|⟨hc_38,h_36⟩
          ·refine aA rfl hc_38 (av (aa (gV n_25 2 s_22.1) (aa (vI s_22.2) (aa (vI (nP x_19.At wv_3.To)) (aM (.d (.agg (Window.enc (⟨s_22.2,(nP x_19.At wv_3.To)⟩:Window)))) wz (by kernel_rfl) (eQ (([(⟨s_22.2,(nP x_19.At wv_3.To)⟩:Window)]:List Window).map Window.enc) Fj Qq rfl rfl rfl rfl rfl wz ?_))))))
           obtain ⟨a_39,hz_40,h_36⟩:=bind_some h_36
           refine jh 0 il ft (i:=1) GQ GQ jZ z33 rfl (by decide) RS (by decide) (λ_=>rfl) rfl rfl rfl hz_40 wz (λn_41=>aa (gV n_41 2 a_39) (af ?_))
           obtain rfl:=ae h_36
           exact aV n_41 trivial rfl (aK rfl)
          ·refine ay rfl hc_38 (ax ?_)
           obtain rfl:=ae h_36
           exact aV n_25 trivial rfl (aK rfl)
         ·rintro n_37 _ sl_ H_ hp_ hq_
          refine aO _ hp_ hq_ (av (aa (vI s_22.2) (aJ BZ rfl 2 rfl wz (aB 0 2 il ft sz3 ag3 rfl rfl (vI x_19.At) rfl wz (aJ Qz rfl 3 rfl wz (aB 0 2 il ft sz3 ag3 rfl rfl (vI x_19.Long) rfl wz (aa (vI (w64 (x_19.At+x_19.Long))) (ni (vI (fZ s_22.2 (w64 (x_19.At+x_19.Long)))) rfl (.inr rfl) wz (aa (vI (fZ s_22.2 (w64 (x_19.At+x_19.Long)))) (af (av (fQ (bN hD_20 hn_21) wz rfl (aa (vI ((k_17+1:Nat):Int)) (af ?_))))))))))))))
          obtain rfl:=ae hc_26
          exact aY (k_17+1,l_18,(v_35,(fZ s_22.2 (w64 (x_19.At+x_19.Long)))),n_37) ⟨hL_27,aW hD_20⟩ (ls_ _) rfl (aK rfl)
     ·rintro ⟨s_22,n_25⟩ ho_ sl_ H_ hp_ hq_
      subst ho_
      refine aO _ hp_ hq_ (au (aj (aa (vI s_22.2) (aJ iK rfl 1 rfl wz (aB 0 0 il ft sz3 ag3 rfl rfl (vI wv_3.To) rfl wz (aa (vB (decide (s_22.2<wv_3.To))) (af ?_)))))))
      obtain ⟨v_42,h_43,hF⟩:=bind_some hF
      refine jA (β:=Nm) (λ(n_44:Nm)=>([(9,(gV n_44 2 v_42))]:SL_)) (λ(n_44:Nm)=>([(n_4,some (.cells 2 [(vI wv_3.From),(vI wv_3.To)])),(n_44,gB 2 Window.enc v_42)]:Hp)) (λ_=>True) ?_ ?_
      ·rcases ak h_43 with⟨hc_45,h_43⟩|⟨hc_45,h_43⟩
       ·refine aA rfl hc_45 (av (aa (gV n_25 2 s_22.1) (aa (vI s_22.2) (aJ iK rfl 1 rfl wz (aB 0 0 il ft sz3 ag3 rfl rfl (vI wv_3.To) rfl wz (aM (.d (.agg (Window.enc (⟨s_22.2,wv_3.To⟩:Window)))) wz (by kernel_rfl) (eQ (([(⟨s_22.2,wv_3.To⟩:Window)]:List Window).map Window.enc) Fj Qq rfl rfl rfl rfl rfl wz ?_)))))))
        obtain ⟨a_46,hz_47,h_43⟩:=bind_some h_43
        refine jh 0 il ft (i:=1) GQ GQ jZ z33 rfl (by decide) RS (by decide) (λ_=>rfl) rfl rfl rfl hz_47 wz (λn_48=>aa (gV n_48 2 a_46) (af ?_))
        obtain rfl:=ae h_43
        exact aV n_48 trivial rfl (aK rfl)
       ·refine ay rfl hc_45 (ax ?_)
        obtain rfl:=ae h_43
        exact aV n_25 trivial rfl (aK rfl)
      ·rintro n_44 _ sl_ H_ hp_ hq_
       refine aO _ hp_ hq_ (aj (aa (gV n_44 2 v_42) (aa (gV n_44 2 v_42) (aa (vI 0) (af (fB 1 rfl (bX 6 1 rfl rfl (bX 9 1 rfl rfl (bX 83 1 rfl rfl ?_)))))))))
       obtain rfl:=ae hF
       exact aH (aN [(vL Window.enc v_42),(vI 0)] ⟨rfl,⟨rfl,trivial⟩⟩)
theorem Cn {l_1:(List Entry)} {p_2:Player} {wv_3:Window} {r:(List Window)×Int} (hF:nY l_1 p_2 wv_3=some r) :
  FnM Tryz.prog 11 [(vL Entry.enc l_1),(.d (.agg (Player.enc p_2))),(.d (.agg (Window.enc wv_3)))] [] (.tup [(vL Window.enc r.1),(vI r.2)]) []:=by
 refine FnM.of_wH ⟨Tryz.prog,38,[],[]⟩ rfl Tryz.func11 rfl rfl (lb_ rfl) (by kernel_rfl) ?_
 unfold nY at hF
 refine aj (d9 0 (.inl rfl) (Player.v p_2) rfl rfl wz (λn_4=>d9 0 (.inl rfl) [(vI wv_3.From),(vI wv_3.To)] rfl rfl wz (λn_5=>aa .nil (aa (vI 0) (af (au (aj (aa (vL Entry.enc l_1) (aB 0 0 il ft uR xL rfl rfl (.d (.agg (Player.enc p_2))) rfl wz (aB 0 1 il ft jZ nX rfl rfl (.d (.agg (Window.enc wv_3))) rfl wz ?_))))))))))
 obtain ⟨r_6,hr_7,hF⟩:=bind_some hF
 refine aC (pM hr_7) rfl hb19 rfl rfl rfl rfl wz (aa (vI r_6) (af (aj (aa (vI r_6) (aa (vB (r_6 != 0)) (af ?_))))))
 rcases ak hF with⟨hc_8,hF⟩|⟨hc_8,hF⟩
 ·refine aA rfl hc_8 (aj (aa (vI r_6) (aa .nil (aa (vI r_6) (af ?_)))))
  obtain rfl:=ae hF
  exact aH (aN [.nil,(vI r_6)] ⟨rfl,⟨rfl,trivial⟩⟩)
 ·refine ay rfl hc_8 (ax (aj (aa .nil (af (au (aj (aa (vL Entry.enc l_1) (aB 0 0 il ft uR xL rfl rfl (.d (.agg (Player.enc p_2))) rfl wz (aB 0 1 il ft jZ nX rfl rfl (.d (.agg (Window.enc wv_3))) rfl wz ?_)))))))))
  obtain ⟨r_9,hr_10,hF⟩:=bind_some hF
  refine aC (rF hr_10) rfl hb20 rfl rfl rfl rfl wz (dx un34 rfl wz (aa (vI 0) (af (jH (λn_17 => ?_)))))
  obtain ⟨o_22,hj_23,hF⟩:=bind_some hF
  obtain ⟨hn_15,hj_23⟩:=bI hj_23
  refine iw (σ:=(List Window)) (N:=Nm) (λp=>(λ(s_16:List Window) (n_19:Nm)=>([(9,(gV n_19 2 s_16))]:SL_)) p.1 p.2) (λp=>(λ(s_16:List Window) (n_19:Nm)=>([(n_4,some (.cells 4 (Player.v p_2))),(n_5,some (.cells 2 [(vI wv_3.From),(vI wv_3.To)])),(n_19,gB 2 Window.enc s_16)]:Hp)) p.1 p.2) (λ(k_11:Nat)=>(λp=>(λ(s_16:List Window) (n_19:Nm)=>([(9,(gV n_19 2 s_16)),(22,(vL Slot_.enc r_9)),(23,(vI (r_9.length:Int))),(24,(vI (k_11:Int)))]:SL_)) p.1 p.2)) (λk x s=>iq k x s) o_22 r_9 (([]:List Window),n_17) hj_23 rfl (aK rfl) ?_ ?_
  ·rintro ⟨k_11,l_12,s_16,n_19⟩ ⟨hL_21,hD_14⟩
   dsimp only at hL_21 hD_14
   cases l_12 with
   | nil =>
    obtain rfl:=ae hL_21
    refine aj (aa (vB (decide ((k_11:Int)<(r_9.length:Int)))) (af ?_))
    refine au (ay rfl (drop_nil hD_14) (aX ?_))
    exact aV (s_16,n_19) rfl rfl (aK rfl)
   | cons x_13 l_12 =>
    obtain ⟨c_,hc_20,hL_21⟩:=bind_some hL_21
    refine aj (aa (vB (decide ((k_11:Int)<(r_9.length:Int)))) (af ?_))
    refine au (aA rfl (bO hD_14) (ax ?_))
    unfold iq at hc_20
    refine au (aQ (aj (dW PT rfl rfl (bU hD_14) rfl wz (bK Qa ag44 rfl (.d (.agg (Slot_.enc x_13))) rfl wz (dC 0 (.inl rfl) z44 rfl wz (λn_24=>fA 0 il ft 3 Qa rfl rfl (Slot_.v x_13) rfl wz (af (aj (aJ IC rfl 2 rfl wz (aB 0 3 il ft sz9 ag9 rfl rfl (vS x_13.Entry) rfl wz (aa (vB (sEq x_13.Entry (⟨#[]⟩:ByteArray))) (af ?_))))))))))))
    obtain ⟨v_25,h_26,hc_20⟩:=bind_some hc_20
    refine jA (β:=Nm) (λ(n_27:Nm)=>([(9,(gV n_27 2 v_25)),(22,(vL Slot_.enc r_9)),(23,(vI (r_9.length:Int))),(24,(vI (k_11:Int)))]:SL_)) (λ(n_27:Nm)=>([(n_4,some (.cells 4 (Player.v p_2))),(n_5,some (.cells 2 [(vI wv_3.From),(vI wv_3.To)])),(n_27,gB 2 Window.enc v_25),(n_24,some (.cells 3 (Slot_.v x_13)))]:Hp)) (λ_=>True) ?_ ?_
    ·rcases ak h_26 with⟨hc_28,h_26⟩|⟨hc_28,h_26⟩
     ·refine aA rfl hc_28 (av (aa (gV n_19 2 s_16) (aJ Gq rfl 0 rfl wz (aB 0 3 il ft jZ nX rfl rfl (.d (.agg (Window.enc x_13.Time))) rfl wz (eQ (([x_13.Time]:List Window).map Window.enc) Fj Qq rfl rfl rfl rfl rfl wz ?_)))))
      obtain ⟨a_29,hz_30,h_26⟩:=bind_some h_26
      refine jh 0 il ft (i:=2) GQ GQ jZ z33 rfl (by decide) RS (by decide) (λ_=>rfl) rfl rfl rfl hz_30 wz (λn_31=>aa (gV n_31 2 a_29) (af ?_))
      obtain rfl:=ae h_26
      exact aV n_31 trivial rfl (aK rfl)
     ·refine ay rfl hc_28 (ax ?_)
      obtain rfl:=ae h_26
      exact aV n_19 trivial rfl (aK rfl)
    ·rintro n_27 _ sl_ H_ hp_ hq_
     refine aO _ hp_ hq_ (av (fQ (bN hD_14 hn_15) wz rfl (aa (vI ((k_11+1:Nat):Int)) (af ?_))))
     obtain rfl:=ae hc_20
     exact aY (k_11+1,l_12,v_25,n_27) ⟨hL_21,aW hD_14⟩ (ls_ _) rfl (aK rfl)
  ·rintro ⟨s_16,n_19⟩ ho_ sl_ H_ hp_ hq_
   subst ho_
   refine aO _ hp_ hq_ (aj (aa (gV n_19 2 s_16) (aa (gV n_19 2 s_16) (aa (vI 0) (af (fB 2 rfl (bX 6 2 rfl rfl (bX 9 2 rfl rfl (bX 37 2 rfl rfl ?_)))))))))
   obtain rfl:=ae hF
   exact aH (aN [(vL Window.enc s_16),(vI 0)] ⟨rfl,⟨rfl,trivial⟩⟩)
theorem nH {s1_1:(List Window)} {s2_2:(List Window)} {r:Bool} (hF:dJ s1_1 s2_2=some r) :
  FnM Tryz.prog 12 [(vL Window.enc s1_1),(vL Window.enc s2_2)] [] (vB r) []:=by
 refine FnM.of_wH ⟨Tryz.prog,26,[],[]⟩ rfl Tryz.func12 rfl rfl (lb_ rfl) (by kernel_rfl) ?_
 unfold dJ at hF
 refine aj (aa (vB false) (af (au (aj (aa (vL Window.enc s1_1) (dx MZ rfl wz (aa (vL Window.enc s2_2) (dx MZ rfl wz (aa (vB ((s1_1.length:Int) != (s2_2.length:Int))) (af ?_))))))))))
 rcases ak hF with⟨hc_3,hF⟩|⟨hc_3,hF⟩
 ·refine aA rfl hc_3 (aj (aa (vB false) (af ?_)))
  obtain rfl:=ae hF
  exact aH (aN [(vB false)] ⟨rfl,trivial⟩)
 ·refine ay rfl hc_3 (ax (au (aj (aa (vL Window.enc s1_1) (dx MZ rfl wz (aa (vI 0) (af ?_)))))))
  obtain ⟨o_12,hj_13,hF⟩:=bind_some hF
  obtain ⟨hn_8,hj_13⟩:=bI hj_13
  refine fH (λ(s_9:Unit)=>[]) (λ(s_9:Unit)=>[]) (λ(k_4:Nat)=>(λ(s_9:Unit)=>[(0,(vL Window.enc s1_1)),(1,(vL Window.enc s2_2)),(12,(vI (s1_1.length:Int))),(13,(vI (k_4:Int)))])) (λk x s=>bW s2_2 k x s) o_12 s1_1 () hj_13 rfl (aK rfl) ?_ ?_
  ·rintro ⟨k_4,l_5,s_9⟩ ⟨hL_11,hD_7⟩
   dsimp only at hL_11 hD_7
   cases l_5 with
   | nil =>
    obtain rfl:=ae hL_11
    refine aj (aa (vB (decide ((k_4:Int)<(s1_1.length:Int)))) (af ?_))
    refine au (ay rfl (drop_nil hD_7) (aX ?_))
    exact aV (s_9) rfl rfl (aK rfl)
   | cons x_6 l_5 =>
    obtain ⟨c_,hc_10,hL_11⟩:=bind_some hL_11
    refine aj (aa (vB (decide ((k_4:Int)<(s1_1.length:Int)))) (af ?_))
    refine au (aA rfl (bO hD_7) (ax ?_))
    unfold bW at hc_10
    refine au (aQ (aj (aa (vI (k_4:Int)) (aa (vI (k_4:Int)) (af (au (bE (aa (vL Window.enc s1_1) (aa (vI (k_4:Int)) (dW Fj rfl rfl (bU hD_7) rfl wz (bK jZ nX rfl (.d (.agg (Window.enc x_6))) rfl wz (aa (vL Window.enc s2_2) (aa (vI (k_4:Int)) ?_)))))))))))))
    obtain ⟨y_14,hy_15,hc_10⟩:=bind_some hc_10
    refine dW Fj rfl rfl hy_15 rfl wz (bK jZ nX rfl (.d (.agg (Window.enc y_14))) rfl wz (aM (vB (!((x_6.From==y_14.From)&&((x_6.To==y_14.To)&&true)))) wz (by kernel_rfl) (af ?_)))
    rcases ak hc_10 with⟨hc_16,hc_10⟩|⟨hc_16,hc_10⟩
    ·refine aA rfl hc_16 (aj (aa (vB false) (af ?_)))
     obtain rfl:=ae hc_10
     obtain rfl:=ae hL_11
     obtain rfl:=ae hF
     exact aH (aN [(vB false)] ⟨rfl,trivial⟩)
    ·refine ay rfl hc_16 (ax (av (fQ (bN hD_7 hn_8) wz rfl (aa (vI ((k_4+1:Nat):Int)) (af ?_)))))
     obtain rfl:=ae hc_10
     exact aY (k_4+1,l_5,()) ⟨hL_11,aW hD_7⟩ (ls_ _) rfl (aK rfl)
  ·rintro s_9 ho_ sl_ H_ hp_ hq_
   subst ho_
   refine aO _ hp_ hq_ (aj (aa (vB true) (af ?_)))
   obtain rfl:=ae hF
   exact aH (aN [(vB true)] ⟨rfl,trivial⟩)
theorem vw {l_1:(List Entry)} {p_2:Player} {atv_3:Int} {r:Int} (hF:eG l_1 p_2 atv_3=some r) :
  FnM Tryz.prog 33 [(vL Entry.enc l_1),(.d (.agg (Player.enc p_2))),(vI atv_3)] [] (vI r) []:=by
 refine FnM.of_wH ⟨Tryz.prog,22,[],[]⟩ rfl Tryz.func33 rfl rfl (lb_ rfl) (by kernel_rfl) ?_
 unfold eG at hF
 refine aj (d9 0 (.inl rfl) (Player.v p_2) rfl rfl wz (λn_4=>aa (vI 0) (af (au (aj (aa (vL Entry.enc l_1) ?_))))))
 obtain ⟨r_5,hr_6,hF⟩:=bind_some hF
 refine aC (kK hr_6) rfl hb40 rfl rfl rfl rfl wz (aa (vI r_5) (af (aj (aa (vI r_5) (aa (vB (r_5 != 0)) (af ?_))))))
 rcases ak hF with⟨hc_7,hF⟩|⟨hc_7,hF⟩
 ·refine aA rfl hc_7 (aj (aa (vI r_5) (aa (vI r_5) (af ?_))))
  obtain rfl:=ae hF
  exact aH (aN [(vI r_5)] ⟨rfl,trivial⟩)
 ·refine ay rfl hc_7 (ax (au (aj (aB 0 0 il ft uR xL rfl rfl (.d (.agg (Player.enc p_2))) rfl wz ?_))))
  obtain ⟨r_8,hr_9,hF⟩:=bind_some hF
  refine aC (oF hr_9) rfl hb41 rfl rfl rfl rfl wz (aa (vI r_8) (af (aj (aa (vI r_8) (aa (vB (r_8 != 0)) (af ?_))))))
  rcases ak hF with⟨hc_10,hF⟩|⟨hc_10,hF⟩
  ·refine aA rfl hc_10 (aj (aa (vI r_8) (aa (vI r_8) (af ?_))))
   obtain rfl:=ae hF
   exact aH (aN [(vI r_8)] ⟨rfl,trivial⟩)
  ·refine ay rfl hc_10 (ax (au (aj (aa (vI atv_3) ?_))))
   obtain ⟨r_11,hr_12,hF⟩:=bind_some hF
   refine aC (gZ hr_12) rfl Ja rfl rfl rfl rfl wz (aa (vB (!r_11)) (af ?_))
   rcases ak hF with⟨hc_13,hF⟩|⟨hc_13,hF⟩
   ·refine aA rfl hc_13 (aj (aa (vI 1) (af ?_)))
    obtain rfl:=ae hF
    exact aH (aN [(vI 1)] ⟨rfl,trivial⟩)
   ·refine ay rfl hc_13 (ax (aj (aa (vI 0) (af ?_))))
    obtain rfl:=ae hF
    exact aH (aN [(vI 0)] ⟨rfl,trivial⟩)
theorem ou {x r:(List Span)} (hF:iW x=some r) :
  FnM Tryz.prog 44 [(dV (aG 0) 3 x),(.fn 51 [])] (([]:List Box)++gI 3 Span.enc x) (.tup []) (([]:List Box).map some++gT x (gB 3 Span.enc r)) :=
 Io (E:=Span.enc) (F:=λa b=>eZ a b) (λ_=>rfl) (λa b r h=>rH (dM:=dmT) h) hb51 (λβ _ enc hk h1 cf hO g cb blk off cap d w eg hcmp hH hblk hsz=>Tryz.slices_SortFunc_eq_f44 3 Tryz.isAgg92 Tryz.sizeOf92 enc hk h1 cf hO g cb blk off cap d w eg hcmp hH hblk hsz) (λp cap fv w=>Tryz.slices_SortFunc_none_f44 (α:=Nat) p cap fv w) hF
theorem FN {l_1:(List Entry)} {p_2:Player} {atv_3:Int} {r:(List Span)} (hF:qA l_1 p_2 atv_3=some r) :
  FnM Tryz.prog 34 [(vL Entry.enc l_1),(.d (.agg (Player.enc p_2))),(vI atv_3)] [] (vL Span.enc r) []:=by
 refine FnM.of_wH ⟨Tryz.prog,18,[],[]⟩ rfl Tryz.func34 rfl rfl (lb_ rfl) (by kernel_rfl) ?_
 unfold qA at hF
 refine aj (d9 0 (.inl rfl) (Player.v p_2) rfl rfl wz (λn_4=>aa .nil (af (aj (aa (vL Entry.enc l_1) (aB 0 0 il ft uR xL rfl rfl (.d (.agg (Player.enc p_2))) rfl wz (aa (vI atv_3) (aa (vI atv_3) (aa (vI (w64 (atv_3+1))) (aM (.d (.agg (Window.enc (⟨atv_3,(w64 (atv_3+1))⟩:Window)))) wz (by kernel_rfl) ?_))))))))))
 obtain ⟨r_5,hr_6,hF⟩:=bind_some hF
 refine DX [] (rZ hr_6) rfl hb43 rfl (by kernel_rfl) (by kernel_rfl) (by kernel_rfl) (by kernel_rfl) (by kernel_rfl) rfl (by decide) (by kernel_rfl) wz ([(n_4,some (.cells 4 (Player.v p_2)))]:Hp) (λ_=>by kernel_rfl) (λn_8=>aa (gV n_8 3 r_5) (af (aj (aa (gV n_8 3 r_5) ?_))))
 obtain ⟨r_9,hr_10,hF⟩:=bind_some hF
 obtain ⟨_,hs_11,hF⟩:=bind_some hF
 replace hs_11:=lQ hs_11
 refine lL 0 [] 1 0 il ft (ou hr_10) rfl hb44 rfl rfl rfl (by kernel_rfl) rfl (.inl rfl) rfl (by kernel_rfl) (by kernel_rfl) (by kernel_rfl) (by kernel_rfl) rfl (by decide) (by kernel_rfl) nU (vD hs_11) wz ([(n_4,some (.cells 4 (Player.v p_2))),(n_8,gB 3 Span.enc r_9)]:Hp) (by kernel_rfl) (dU (v':=(gV n_8 3 r_9)) 14 rfl (jm hs_11.symm) (dU (v':=(gV n_8 3 r_9)) 15 rfl (jm hs_11.symm) (dU (v':=(gV n_8 3 r_9)) 7 rfl (jm hs_11.symm) (af (aj (aa (gV n_8 3 r_9) (aa (gV n_8 3 r_9) (af (fB 1 rfl (bX 6 1 rfl rfl (bX 7 1 rfl rfl (bX 14 1 rfl rfl (bX 15 1 rfl rfl (bX 17 1 rfl rfl ?_))))))))))))))
 obtain rfl:=ae hF
 exact aH (aN [(vL Span.enc r_9)] ⟨rfl,trivial⟩)
theorem Es {l_1:(List Entry)} {p_2:Player} {atv_3:Int} {r:ByteArray×Bool×Int} (hF:oH l_1 p_2 atv_3=some r) :
  FnM Tryz.prog 13 [(vL Entry.enc l_1),(.d (.agg (Player.enc p_2))),(vI atv_3)] [] (.tup [(vS r.1),(vB r.2.1),(vI r.2.2)]) []:=by
 refine FnM.of_wH ⟨Tryz.prog,32,[],[]⟩ rfl Tryz.func13 rfl rfl (lb_ rfl) (by kernel_rfl) ?_
 unfold oH at hF
 refine aj (d9 0 (.inl rfl) (Player.v p_2) rfl rfl wz (λn_4=>aa (vS (⟨#[]⟩:ByteArray)) (aa (vB false) (aa (vI 0) (af (au (aj (aa (vL Entry.enc l_1) (aB 0 0 il ft uR xL rfl rfl (.d (.agg (Player.enc p_2))) rfl wz (aa (vI atv_3) ?_))))))))))
 obtain ⟨r_5,hr_6,hF⟩:=bind_some hF
 refine aC (vw hr_6) rfl hb33 rfl rfl rfl rfl wz (aa (vI r_5) (af (aj (aa (vI r_5) (aa (vB (r_5 != 0)) (af ?_))))))
 rcases ak hF with⟨hc_7,hF⟩|⟨hc_7,hF⟩
 ·refine aA rfl hc_7 (aj (aa (vI r_5) (aa (vS (⟨#[]⟩:ByteArray)) (aa (vB false) (aa (vI r_5) (af ?_))))))
  obtain rfl:=ae hF
  exact aH (aN [(vS (⟨#[]⟩:ByteArray)),(vB false),(vI r_5)] ⟨rfl,⟨rfl,⟨rfl,trivial⟩⟩⟩)
 ·refine ay rfl hc_7 (ax (aj (aa (vL Entry.enc l_1) (aB 0 0 il ft uR xL rfl rfl (.d (.agg (Player.enc p_2))) rfl wz (aa (vI atv_3) ?_)))))
  obtain ⟨r_8,hr_9,hF⟩:=bind_some hF
  refine aC (FN hr_9) rfl hb34 rfl rfl rfl rfl wz (aa (vL Span.enc r_8) (af (au (aj (aa (vL Span.enc r_8) (dx DL rfl wz (aa (vB ((r_8.length:Int)==0)) (af ?_))))))))
  rcases ak hF with⟨hc_10,hF⟩|⟨hc_10,hF⟩
  ·refine aA rfl hc_10 (aj (aa (vS (⟨#[]⟩:ByteArray)) (aa (vB false) (aa (vI 0) (af ?_)))))
   obtain rfl:=ae hF
   exact aH (aN [(vS (⟨#[]⟩:ByteArray)),(vB false),(vI 0)] ⟨rfl,⟨rfl,⟨rfl,trivial⟩⟩⟩)
  ·refine ay rfl hc_10 (ax (aj (aa (vL Span.enc r_8) ?_)))
   obtain ⟨y_11,hy_12,hF⟩:=bind_some hF
   refine dW Bh rfl rfl hy_12 rfl wz (kP Fy rfl [dP Entry.enc y_11.f_e,.int .i64 y_11.f_time.From,.int .i64 y_11.f_time.To] rfl rfl wz (bK QD RX rfl (.d (dP Entry.enc y_11.f_e)) rfl wz ?_))
   obtain ⟨y_13,hy_14,hF⟩:=bind_some hF
   refine dU (v':=(.d (.ptr (Entry.enc y_13)))) 28 rfl (y8 (enc:=Entry.enc) (y:=y_13) hy_14) (aa (.d (.ptr (Entry.enc y_13))) (kP Ai rfl (Entry.enc y_13) rfl rfl wz (bK sz9 ag9 rfl (vS y_13.Key) rfl wz (aa (vS y_13.Key) (aa (vB true) (aa (vI 0) (af ?_)))))))
   obtain rfl:=ae hF
   exact aH (aN [(vS y_13.Key),(vB true),(vI 0)] ⟨rfl,⟨rfl,⟨rfl,trivial⟩⟩⟩)
theorem zo {r_1:Rect} {r:Int} (hF:p8 r_1=some r) :
  FnM Tryz.prog 97 [(.d (.agg (Rect.enc r_1)))] [] (vI r) []:=by
 refine FnM.of_wH ⟨Tryz.prog,25,[],[]⟩ rfl Tryz.func97 rfl rfl (lb_ rfl) (by kernel_rfl) ?_
 unfold p8 at hF
 refine aj (d9 0 (.inl rfl) (Rect.v r_1) rfl rfl wz (λn_2=>aa (vI 0) (af (au (au ?_)))))
 obtain ⟨v_3,h_4,hF⟩:=bind_some hF
 refine aS [(1,(.ref n_2 0 0)),(10,(vB v_3))] [(n_2,some (.cells 4 (Rect.v r_1)))] ?_ ?_
 ·refine av (aJ Jh rfl 0 rfl wz (aB 0 0 il ft sz3 ag3 rfl rfl (vI r_1.X) rfl wz ?_))
  obtain ⟨r_5,hr_6,h_4⟩:=bind_some h_4
  refine aC (bD hr_6) rfl rT rfl rfl rfl rfl wz ?_
  rcases ak h_4 with⟨hc_7,h_4⟩|⟨hc_7,h_4⟩
  ·refine aI rfl hc_7 wz (ah (ah (ah (aa (vB true) (af ?_)))))
   obtain rfl:=ae h_4
   exact cu
  ·refine aI rfl hc_7 wz (aJ BM rfl 1 rfl wa (aB 0 0 il ft sz3 ag3 rfl rfl (vI r_1.Y) rfl wa ?_))
   obtain ⟨r_8,hr_9,h_4⟩:=bind_some h_4
   refine aC (bD hr_9) rfl rT rfl rfl rfl rfl wa (aa (vB r_8) (af ?_))
   obtain rfl:=ae h_4
   exact cu
 ·rintro ⟨⟩ _ sl_ H_ hp_ hq_
  refine aO _ hp_ hq_ ?_
  rcases ak hF with⟨hc_10,hF⟩|⟨hc_10,hF⟩
  ·refine aA rfl hc_10 (aj (aa (vI 1) (af ?_)))
   obtain rfl:=ae hF
   exact aH (aN [(vI 1)] ⟨rfl,trivial⟩)
  ·refine ay rfl hc_10 (ax (au (au ?_)))
   obtain ⟨v_11,h_12,hF⟩:=bind_some hF
   refine aS [(24,(vB v_11))] [(n_2,some (.cells 4 (Rect.v r_1)))] ?_ ?_
   ·refine av (aJ L6 rfl 2 rfl wz (aB 0 0 il ft sz3 ag3 rfl rfl (vI r_1.W) rfl wz (aJ Jh rfl 0 rfl wz (aB 0 0 il ft sz3 ag3 rfl rfl (vI r_1.X) rfl wz (aa (vI (w64 (100000-r_1.X))) ?_)))))
    obtain ⟨r_13,hr_14,h_12⟩:=bind_some h_12
    refine aC (bD hr_14) rfl rT rfl rfl rfl rfl wz ?_
    rcases ak h_12 with⟨hc_15,h_12⟩|⟨hc_15,h_12⟩
    ·refine aI rfl hc_15 wz (ah (ah (ah (ah (ah (ah (aa (vB true) (af ?_))))))))
     obtain rfl:=ae h_12
     exact cu
    ·refine aI rfl hc_15 wz (aJ IZ rfl 3 rfl wa (aB 0 0 il ft sz3 ag3 rfl rfl (vI r_1.H) rfl wa (aJ BM rfl 1 rfl wa (aB 0 0 il ft sz3 ag3 rfl rfl (vI r_1.Y) rfl wa (aM (vI (w64 (100000-r_1.Y))) wa rfl ?_)))))
     obtain ⟨r_16,hr_17,h_12⟩:=bind_some h_12
     refine aC (bD hr_17) rfl rT rfl rfl rfl rfl wa (aa (vB r_16) (af ?_))
     obtain rfl:=ae h_12
     exact cu
   ·rintro ⟨⟩ _ sl_ H_ hp_ hq_
    refine aO _ hp_ hq_ ?_
    rcases ak hF with⟨hc_18,hF⟩|⟨hc_18,hF⟩
    ·refine aA rfl hc_18 (aj (aa (vI 1) (af ?_)))
     obtain rfl:=ae hF
     exact aH (aN [(vI 1)] ⟨rfl,trivial⟩)
    ·refine ay rfl hc_18 (ax (aj (aa (vI 0) (af ?_))))
     obtain rfl:=ae hF
     exact aH (aN [(vI 0)] ⟨rfl,trivial⟩)
end Go.Proofs.YtmkljmjhcegapaaGreatDoor.Law

