/-
 The machine computes these plain functions (written by a program of ours).
-/
import Derived.Test.YtjhcehhmdmbleaaGreatDoorFacts
import Derived.Test.YtjhcehhmdmbleaaGreatDoorDefs
import Derived.Test.YtjhcehhmdmbleaaGreatDoorPf5
open Go Go.Eng Go.Proofs
namespace Go.Proofs.YtjhcehhmdmbleaaGreatDoor.Law
set_option maxRecDepth 100000
set_option linter.unusedVariables false
set_option maxHeartbeats 1000000
theorem BD {l_1:(List Beat_)} {n_2:Int} {r:Int×Int} (hF:nQ l_1 n_2=some r) :
  FnM Tryz.prog 203 [(vL Beat_.enc l_1),(vI n_2)] [] (.tup [(vI r.1),(vI r.2)]) []:=by
 refine FnM.of_wH ⟨Tryz.prog,108,[],[]⟩ rfl Tryz.func203 rfl rfl (Nat.le_of_ble_eq_true rfl) (by kernel_rfl) ?_
 unfold nQ at hF
 refine af (aa (ae (vI 0) wz rfl (ae (vI 0) wz rfl (ai (af (af (aa (ae (vL Beat_.enc l_1) wz rfl (bP N7 rfl wz (ae (vB ((l_1.length:Int) == 0)) wz rfl (ai ?_)))))))))))
 rcases ak hF with⟨hc_3,hF⟩ | ⟨hc_3,hF⟩
 ·refine aB rfl hc_3 (af (aa (ae (vI 0) wz rfl (ae (vI 8) wz rfl (ai ?_)))))
  obtain rfl:=ah hF
  exact ay (aM (.inr rfl) [(vI 0),(vI 8)] ⟨rfl,⟨rfl,trivial⟩⟩ rfl rfl rfl)
 ·refine aA rfl hc_3 (av (af (aa (ae (vI 0) wz rfl (ai (af ?_))))))
  obtain ⟨o_12,hj_13,hF⟩:=bind_some hF
  obtain ⟨nq_51,hj_13⟩:=eY hj_13
  refine aG (β:=(Int)) (fun (s_9:Int)=>([(0,(vL Beat_.enc l_1)),(1,(vI n_2)),(6,(vI s_9))]:List (Nat×V))) (fun (s_9:Int)=>([]:Hp)) (fun p=>o_12 = .go p) ?_ ?_
  ·refine aF (aW (β:=Nat×(Int)) (fun p=>(fun (k_4:Nat) (s_9:Int)=>([(0,(vL Beat_.enc l_1)),(1,(vI n_2)),(6,(vI s_9))]:List (Nat×V))) p.1 p.2) (fun p=>(fun (k_4:Nat) (s_9:Int)=>([]:Hp)) p.1 p.2) (fun p=>iterN (fun s=>mE l_1 n_2 s) p.1 p.2=some o_12) (fun p=>p.1) (nq_51,0) hj_13 rfl (aH rfl) ?_)
   rintro ⟨k_4,s_9⟩ hL_11
   dsimp only at hL_11
   cases k_4 with
   | zero=>cases hL_11
   | succ k_4 =>
    obtain ⟨c_,hc_10,hL_11⟩:=bind_some hL_11
    unfold mE at hc_10
    refine af (af ?_)
    obtain ⟨v_14,h_15,hc_10⟩:=bind_some hc_10
    refine aG (β:=Unit) (fun _=>([(0,(vL Beat_.enc l_1)),(1,(vI n_2)),(6,(vI s_9)),(25,(vB v_14))]:List (Nat×V))) (fun _=>([]:Hp)) (fun _=>True) ?_ ?_
    ·refine aa (ae (vI s_9) wz rfl (ae (vL Beat_.enc l_1) wz rfl (bP N7 rfl wz (ae (vB (decide (s_9 < (l_1.length:Int)))) wz rfl ?_))))
     rcases ak h_15 with⟨hc_16,h_15⟩ | ⟨hc_16,h_15⟩
     ·refine aD rfl hc_16 wz (ae (vL Beat_.enc l_1) wa rfl (ae (vI s_9) wa rfl ?_))
      obtain ⟨y_17,hy_18,h_15⟩:=bind_some h_15
      refine dL zb rfl rfl hy_18 rfl wa (lW rW rfl [.int .i64 y_17.f_from,.int .i64 y_17.f_to] rfl rfl wa (bJ sz3 ag3 rfl (vI y_17.f_from) rfl wa (ae (vI n_2) wa rfl (ae (vB (decide (y_17.f_from≤n_2))) wa rfl (ae (vB (decide (y_17.f_from≤n_2))) wz rfl (ai ?_))))))
      obtain rfl:=ah h_15
      exact cu
     ·refine aD rfl hc_16 wz (aj wa (aj wa (aj wa (aj wa (aj wa (aj wa (aj wa (ae (vB false) wz rfl (ai ?_)))))))))
      obtain rfl:=ah h_15
      exact cu
    ·rintro ⟨⟩ _ sl_ H_ hp_ hq_
     refine aK _ hp_ hq_ ?_
     rcases ak hc_10 with⟨hc_19,hc_10⟩ | ⟨hc_19,hc_10⟩
     ·refine aB rfl hc_19 (av (aF (aa (ae (vI s_9) wz rfl (ae (vI (w64 (s_9 + 1))) wz rfl (ae (vI (w64 (s_9 + 1))) wz rfl (ai ?_)))))))
      obtain rfl:=ah hc_10
      exact aR (k_4,(w64 (s_9 + 1))) hL_11 (Nat.lt_succ_self _) rfl (aH rfl)
     ·refine aA rfl hc_19 (aS ?_)
      obtain rfl:=ah hc_10
      obtain rfl:=ah hL_11
      exact aP (s_9) rfl rfl (aH rfl)
  ·rintro s_9 ho_ sl_ H_ hp_ hq_
   subst ho_
   refine aK _ hp_ hq_ (af (aa (ae (vI 0) wz rfl (ai (af (aF (af (aa (ae (vI s_9) wz rfl (ae (vB (s_9 == 0)) wz rfl (ae (vB (s_9 == 0)) wz rfl (ai ?_))))))))))))
   rcases ak hF with⟨hc_20,hF⟩ | ⟨hc_20,hF⟩
   ·refine aB rfl hc_20 (bB (ae (vL Beat_.enc l_1) wz rfl ?_))
    obtain ⟨y_21,hy_22,hF⟩:=bind_some hF
    refine dL zb rfl rfl hy_22 rfl wz (lW uo rfl [.int .i64 y_21.f_to] rfl rfl wz (bJ sz3 ag3 rfl (vI y_21.f_to) rfl wz (ae (vL Beat_.enc l_1) wz rfl ?_)))
    obtain ⟨y_23,hy_24,hF⟩:=bind_some hF
    refine dL zb rfl rfl hy_24 rfl wz (lW rW rfl [.int .i64 y_23.f_from,.int .i64 y_23.f_to] rfl rfl wz (bJ sz3 ag3 rfl (vI y_23.f_from) rfl wz (ae (vI n_2) wz rfl (ae (vI (w64 (y_23.f_from - n_2))) wz rfl (ae (vI (w64 (y_21.f_to - (w64 (y_23.f_from - n_2))))) wz rfl (ae (vI (w64 (y_21.f_to - (w64 (y_23.f_from - n_2))))) wz rfl (ai (af (af (aa (ae (vI (w64 (y_21.f_to - (w64 (y_23.f_from - n_2))))) wz rfl ?_)))))))))))
    obtain ⟨r_25,hr_26,hF⟩:=bind_some hF
    refine aC (iq hr_26) rfl CX rfl rfl rfl rfl wz (ae (vB (!r_25)) wz rfl (ai ?_))
    rcases ak hF with⟨hc_27,hF⟩ | ⟨hc_27,hF⟩
    ·refine aB rfl hc_27 (af (aa (ae (vI 0) wz rfl (ae (vI 11) wz rfl (ai ?_)))))
     obtain rfl:=ah hF
     exact ay (aM (.inr rfl) [(vI 0),(vI 11)] ⟨rfl,⟨rfl,trivial⟩⟩ rfl rfl rfl)
    ·refine aA rfl hc_27 (av (af (aa (ae (vI (w64 (y_21.f_to - (w64 (y_23.f_from - n_2))))) wz rfl (ae (vI (w64 (y_21.f_to - (w64 (y_23.f_from - n_2))))) wz rfl (ae (vI 0) wz rfl (ai ?_)))))))
     obtain rfl:=ah hF
     exact ay (aM (.inr rfl) [(vI (w64 (y_21.f_to - (w64 (y_23.f_from - n_2))))),(vI 0)] ⟨rfl,⟨rfl,trivial⟩⟩ rfl rfl rfl)
   ·refine aA rfl hc_20 (af (aa (ae (vI s_9) wz rfl (ae (vL Beat_.enc l_1) wz rfl (bP N7 rfl wz (ae (vB (s_9 == (l_1.length:Int))) wz rfl (ae (vB (s_9 == (l_1.length:Int))) wz rfl (ai ?_))))))))
    rcases ak hF with⟨hc_28,hF⟩ | ⟨hc_28,hF⟩
    ·refine aB rfl hc_28 (bB (ae (vL Beat_.enc l_1) wz rfl (ae (vI s_9) wz rfl (ae (vI (w64 (s_9 - 1))) wz rfl ?_))))
     obtain ⟨y_29,hy_30,hF⟩:=bind_some hF
     refine dL zb rfl rfl hy_30 rfl wz (lW uo rfl [.int .i64 y_29.f_to] rfl rfl wz (bJ sz3 ag3 rfl (vI y_29.f_to) rfl wz (ae (vI n_2) wz rfl (ae (vI (w64 (y_29.f_to + n_2))) wz rfl (ae (vL Beat_.enc l_1) wz rfl (ae (vI s_9) wz rfl (ae (vI (w64 (s_9 - 1))) wz rfl ?_)))))))
     obtain ⟨y_31,hy_32,hF⟩:=bind_some hF
     refine dL zb rfl rfl hy_32 rfl wz (lW rW rfl [.int .i64 y_31.f_from,.int .i64 y_31.f_to] rfl rfl wz (bJ sz3 ag3 rfl (vI y_31.f_from) rfl wz (ae (vI (w64 ((w64 (y_29.f_to + n_2)) - y_31.f_from))) wz rfl (ae (vI (w64 ((w64 (y_29.f_to + n_2)) - y_31.f_from))) wz rfl (ai (af (af (aa (ae (vI (w64 ((w64 (y_29.f_to + n_2)) - y_31.f_from))) wz rfl ?_)))))))))
     obtain ⟨r_33,hr_34,hF⟩:=bind_some hF
     refine aC (iq hr_34) rfl CX rfl rfl rfl rfl wz (ae (vB (!r_33)) wz rfl (ai ?_))
     rcases ak hF with⟨hc_35,hF⟩ | ⟨hc_35,hF⟩
     ·refine aB rfl hc_35 (af (aa (ae (vI 0) wz rfl (ae (vI 11) wz rfl (ai (aK (H0:=([]:Hp)) ([(4,(vI 0)),(5,(vI 11))]:List (Nat×V)) (by kernel_rfl) (mM (by kernel_rfl)) ?_))))))
      obtain rfl:=ah hF
      exact ay (aM (.inr rfl) [(vI 0),(vI 11)] ⟨rfl,⟨rfl,trivial⟩⟩ rfl rfl rfl)
     ·refine aA rfl hc_35 (av (af (aa (ae (vI (w64 ((w64 (y_29.f_to + n_2)) - y_31.f_from))) wz rfl (ae (vI (w64 ((w64 (y_29.f_to + n_2)) - y_31.f_from))) wz rfl (ae (vI 0) wz rfl (ai (aK (H0:=([]:Hp)) ([(4,(vI (w64 ((w64 (y_29.f_to + n_2)) - y_31.f_from)))),(5,(vI 0))]:List (Nat×V)) (by kernel_rfl) (mM (by kernel_rfl)) ?_))))))))
      obtain rfl:=ah hF
      exact ay (aM (.inr rfl) [(vI (w64 ((w64 (y_29.f_to + n_2)) - y_31.f_from))),(vI 0)] ⟨rfl,⟨rfl,trivial⟩⟩ rfl rfl rfl)
    ·refine aA rfl hc_28 (af (bB (ae (vL Beat_.enc l_1) wz rfl (ae (vI s_9) wz rfl (ae (vI (w64 (s_9 - 1))) wz rfl ?_)))))
     obtain ⟨y_36,hy_37,hF⟩:=bind_some hF
     refine dL zb rfl rfl hy_37 rfl wz (bJ ET ag316 rfl (.d (.agg (Beat_.enc y_36))) rfl wz (ae (vL Beat_.enc l_1) wz rfl (ae (vI s_9) wz rfl ?_)))
     obtain ⟨y_38,hy_39,hF⟩:=bind_some hF
     refine dL zb rfl rfl hy_39 rfl wz (bJ ET ag316 rfl (.d (.agg (Beat_.enc y_38))) rfl wz (aY 9 (.inr (by kernel_rfl)) z316 rfl wz (fun n_40=>aY 10 (.inr (by kernel_rfl)) z316 rfl wz (fun n_41=>bL 11 (.inr (by kernel_rfl)) (fun _ _ ag=>⟨.inr (.inr (by kernel_rfl)),⟨.inr (.inr (by kernel_rfl)),trivial⟩⟩) 0 ET rfl rfl [(vI y_36.f_from),(vI y_36.f_to)] rfl wz (bL 12 (.inr (by kernel_rfl)) (fun _ _ ag=>⟨.inr (.inr (by kernel_rfl)),⟨.inr (.inr (by kernel_rfl)),⟨.inr (.inr (by kernel_rfl)),trivial⟩⟩⟩) 1 ET rfl rfl [(vI y_38.f_from),(vI y_38.f_to)] rfl wz (ai (af (af ?_))))))))
     obtain ⟨v_42,h_43,hF⟩:=bind_some hF
     refine aG (β:=Unit) (fun _=>([(1,(vI n_2)),(8,(.ref n_40 0 0)),(9,(.ref n_41 0 0)),(50,(vB v_42))]:List (Nat×V))) (fun _=>([(n_40,some (.cells 2 [(vI y_36.f_from),(vI y_36.f_to)])),(n_41,some (.cells 2 [(vI y_38.f_from),(vI y_38.f_to)]))]:Hp)) (fun _=>True) ?_ ?_
     ·refine aa (ax rW rfl 0 rfl wz (au 0 1 il ft sz3 ag3 rfl rfl (vI y_38.f_from) rfl wz (ax rW rfl 0 rfl wz (au 0 0 il ft sz3 ag3 rfl rfl (vI y_36.f_from) rfl wz (ae (vI (w64 (y_38.f_from - y_36.f_from))) wz rfl (ae (vB (decide ((w64 (y_38.f_from - y_36.f_from)) > 2592000000))) wz rfl ?_))))))
      rcases ak h_43 with⟨hc_44,h_43⟩ | ⟨hc_44,h_43⟩
      ·refine aD rfl hc_44 wz (aj wa (aj wa (aj wa (aj wa (aj wa (aj wa (ae (vB true) wz rfl (ai ?_))))))))
       obtain rfl:=ah h_43
       exact cu
      ·refine aD rfl hc_44 wz (ax uo rfl 1 rfl wa (au 0 1 il ft sz3 ag3 rfl rfl (vI y_38.f_to) rfl wa (ax uo rfl 1 rfl wa (au 0 0 il ft sz3 ag3 rfl rfl (vI y_36.f_to) rfl wa (ae (vI (w64 (y_38.f_to - y_36.f_to))) wa rfl (ae (vB (decide ((w64 (y_38.f_to - y_36.f_to)) > 2592000000))) wa rfl (ae (vB (decide ((w64 (y_38.f_to - y_36.f_to)) > 2592000000))) wz rfl (ai ?_))))))))
       obtain rfl:=ah h_43
       exact cu
     ·rintro ⟨⟩ _ sl_ H_ hp_ hq_
      refine aK _ hp_ hq_ ?_
      rcases ak hF with⟨hc_45,hF⟩ | ⟨hc_45,hF⟩
      ·refine aB rfl hc_45 (af (aa (ae (vI 0) wz rfl (ae (vI 2) wz rfl (ai ?_)))))
       obtain rfl:=ah hF
       exact ay (aM (.inr rfl) [(vI 0),(vI 2)] ⟨rfl,⟨rfl,trivial⟩⟩ rfl rfl rfl)
      ·refine aA rfl hc_45 (av (bB (ax uo rfl 1 rfl wz (au 1 0 (.inr (by kernel_rfl)) (fun _ _ ag=>trivial) sz3 ag3 rfl rfl (vI y_36.f_to) rfl wz (ae (vI n_2) wz rfl (ax rW rfl 0 rfl wz (au 4 0 (.inr (by kernel_rfl)) (fun _ _ ag=>⟨.inl ⟨rfl,rfl⟩,trivial⟩) sz3 ag3 rfl rfl (vI y_36.f_from) rfl wz (ae (vI (w64 (n_2 - y_36.f_from))) wz rfl (ax uo rfl 1 rfl wz (au 7 1 (.inr (by kernel_rfl)) (fun _ _ ag=>⟨.inl ⟨rfl,rfl⟩,⟨.inl ⟨rfl,rfl⟩,trivial⟩⟩) sz3 ag3 rfl rfl (vI y_38.f_to) rfl wz (ax uo rfl 1 rfl wz (au 9 0 (.inr (by kernel_rfl)) (fun _ _ ag=>⟨.inl ⟨rfl,rfl⟩,⟨.inl ⟨rfl,rfl⟩,⟨.inl ⟨rfl,rfl⟩,trivial⟩⟩⟩) sz3 ag3 rfl rfl (vI y_36.f_to) rfl wz (ae (vI (w64 (y_38.f_to - y_36.f_to))) wz rfl (ae (vI (w64 ((w64 (n_2 - y_36.f_from)) * (w64 (y_38.f_to - y_36.f_to))))) wz rfl (ax rW rfl 0 rfl wz (au 13 1 (.inr (by kernel_rfl)) (fun _ _ ag=>⟨.inl ⟨rfl,rfl⟩,⟨.inl ⟨rfl,rfl⟩,⟨.inl ⟨rfl,rfl⟩,⟨.inl ⟨rfl,rfl⟩,trivial⟩⟩⟩⟩) sz3 ag3 rfl rfl (vI y_38.f_from) rfl wz (ax rW rfl 0 rfl wz (au 15 0 (.inr (by kernel_rfl)) (fun _ _ ag=>⟨.inl ⟨rfl,rfl⟩,⟨.inl ⟨rfl,rfl⟩,⟨.inl ⟨rfl,rfl⟩,⟨.inl ⟨rfl,rfl⟩,⟨.inl ⟨rfl,rfl⟩,trivial⟩⟩⟩⟩⟩) sz3 ag3 rfl rfl (vI y_36.f_from) rfl wz (ae (vI (w64 (y_38.f_from - y_36.f_from))) wz rfl ?_)))))))))))))))))))
       obtain ⟨q_46,hz_47,hF⟩:=bind_some hF
       refine Cc rfl rfl hz_47 wz (ae (vI (w64 (y_36.f_to + q_46))) wz rfl (ae (vI (w64 (y_36.f_to + q_46))) wz rfl (ai (af (af (aa (ae (vI (w64 (y_36.f_to + q_46))) wz rfl ?_)))))))
       obtain ⟨r_48,hr_49,hF⟩:=bind_some hF
       refine aC (iq hr_49) rfl CX rfl rfl rfl rfl wz (ae (vB (!r_48)) wz rfl (ai ?_))
       rcases ak hF with⟨hc_50,hF⟩ | ⟨hc_50,hF⟩
       ·refine aB rfl hc_50 (af (aa (ae (vI 0) wz rfl (ae (vI 11) wz rfl (ai ?_)))))
        obtain rfl:=ah hF
        exact ay (aM (.inr rfl) [(vI 0),(vI 11)] ⟨rfl,⟨rfl,trivial⟩⟩ rfl rfl rfl)
       ·refine aA rfl hc_50 (av (af (aa (ae (vI (w64 (y_36.f_to + q_46))) wz rfl (ae (vI (w64 (y_36.f_to + q_46))) wz rfl (ae (vI 0) wz rfl (ai ?_)))))))
        obtain rfl:=ah hF
        exact ay (aM (.inr rfl) [(vI (w64 (y_36.f_to + q_46))),(vI 0)] ⟨rfl,⟨rfl,trivial⟩⟩ rfl rfl rfl)
theorem Dw {l_1:(List Beat)} {player_2:ByteArray} {n_3:Int} {back_4:Bool} {r:Int×Int} (hF:oW l_1 player_2 n_3 back_4=some r) :
  FnM Tryz.prog 158 [(vL Beat.enc l_1),(vS player_2),(vI n_3),(vB back_4)] [] (.tup [(vI r.1),(vI r.2)]) []:=by
 refine FnM.of_wH ⟨Tryz.prog,30,[],[]⟩ rfl Tryz.func158 rfl rfl (Nat.le_of_ble_eq_true rfl) (by kernel_rfl) ?_
 unfold oW at hF
 refine af (aa (ae (vI 0) wz rfl (ae (vI 0) wz rfl (ai (af (af (aa (ae (vL Beat.enc l_1) wz rfl ?_))))))))
 obtain ⟨r_5,hr_6,hF⟩:=bind_some hF
 refine aC (xh hr_6) rfl hb202 rfl rfl rfl rfl wz (ae (vI r_5) wz rfl (ai (af (aa (ae (vI r_5) wz rfl (ae (vB (r_5 != 0)) wz rfl (ai ?_)))))))
 rcases ak hF with⟨hc_7,hF⟩ | ⟨hc_7,hF⟩
 ·refine aB rfl hc_7 (af (aa (ae (vI r_5) wz rfl (ae (vI 0) wz rfl (ae (vI r_5) wz rfl (ai ?_))))))
  obtain rfl:=ah hF
  exact ay (aM (.inr rfl) [(vI 0),(vI r_5)] ⟨rfl,⟨rfl,trivial⟩⟩ rfl rfl rfl)
 ·refine aA rfl hc_7 (av (af (af (aa (ae (vS player_2) wz rfl ?_)))))
  obtain ⟨r_8,hr_9,hF⟩:=bind_some hF
  refine aC (dN hr_9) rfl qM rfl rfl rfl rfl wz (ae (vB (!r_8)) wz rfl (ai ?_))
  rcases ak hF with⟨hc_10,hF⟩ | ⟨hc_10,hF⟩
  ·refine aB rfl hc_10 (af (aa (ae (vI 0) wz rfl (ae (vI 5) wz rfl (ai ?_)))))
   obtain rfl:=ah hF
   exact ay (aM (.inr rfl) [(vI 0),(vI 5)] ⟨rfl,⟨rfl,trivial⟩⟩ rfl rfl rfl)
  ·refine aA rfl hc_10 (av (af (af (aa (ae (vI n_3) wz rfl ?_)))))
   obtain ⟨r_11,hr_12,hF⟩:=bind_some hF
   refine aC (iq hr_12) rfl CX rfl rfl rfl rfl wz (ae (vB (!r_11)) wz rfl (ai ?_))
   rcases ak hF with⟨hc_13,hF⟩ | ⟨hc_13,hF⟩
   ·refine aB rfl hc_13 (af (aa (ae (vI 0) wz rfl (ae (vI 1) wz rfl (ai ?_)))))
    obtain rfl:=ah hF
    exact ay (aM (.inr rfl) [(vI 0),(vI 1)] ⟨rfl,⟨rfl,trivial⟩⟩ rfl rfl rfl)
   ·refine aA rfl hc_13 (av (af (aa (ae (vL Beat.enc l_1) wz rfl (ae (vS player_2) wz rfl (ae (vB back_4) wz rfl ?_))))))
    obtain ⟨r_14,hr_15,hF⟩:=bind_some hF
    refine aC (AB hr_15) rfl hb204 rfl rfl rfl rfl wz (ae (vI n_3) wz rfl ?_)
    obtain ⟨r_16,hr_17,hF⟩:=bind_some hF
    refine aC (BD hr_17) rfl hb203 rfl rfl rfl rfl wz (ae (vI r_16.1) wz rfl (ae (vI r_16.2) wz rfl (ae (vI r_16.1) wz rfl (ae (vI r_16.2) wz rfl (ai ?_)))))
    obtain rfl:=ah hF
    exact ay (aM (.inr rfl) [(vI r_16.1),(vI r_16.2)] ⟨rfl,⟨rfl,trivial⟩⟩ rfl rfl rfl)
theorem Co {l_1:(List Beat)} {player_2:ByteArray} {clock_3:Int} {r:Int×Int} (hF:o5 l_1 player_2 clock_3=some r) :
  FnM Tryz.prog 80 [(vL Beat.enc l_1),(vS player_2),(vI clock_3)] [] (.tup [(vI r.1),(vI r.2)]) []:=by
 refine FnM.of_wH ⟨Tryz.prog,14,[],[]⟩ rfl Tryz.func80 rfl rfl (Nat.le_of_ble_eq_true rfl) (by kernel_rfl) ?_
 unfold o5 at hF
 refine af (aa (ae (vI 0) wz rfl (ae (vI 0) wz rfl (ai (af (aa (ae (vL Beat.enc l_1) wz rfl (ae (vS player_2) wz rfl (ae (vI clock_3) wz rfl ?_)))))))))
 obtain ⟨r_4,hr_5,hF⟩:=bind_some hF
 refine aC (Dw hr_5) rfl hb158 rfl rfl rfl rfl wz (ae (vI r_4.1) wz rfl (ae (vI r_4.2) wz rfl (ae (vI r_4.1) wz rfl (ae (vI r_4.2) wz rfl (ai ?_)))))
 obtain rfl:=ah hF
 exact ay (aM (.inr rfl) [(vI r_4.1),(vI r_4.2)] ⟨rfl,⟨rfl,trivial⟩⟩ rfl rfl rfl)
theorem xQ {a_1:Alert} {r:Int} (hF:kG a_1=some r) :
  FnM Tryz.prog 268 [(.d (.agg (Alert.enc a_1)))] [] (vI r) []:=by
 refine FnM.of_wH ⟨Tryz.prog,48,[],[]⟩ rfl Tryz.func268 rfl rfl (Nat.le_of_ble_eq_true rfl) (by kernel_rfl) ?_
 unfold kG at hF
 refine af (aa (dJ 0 (.inl rfl) [(vS a_1.Id),(vS a_1.Sender),(vI a_1.Kind),(vL eS a_1.Refs),(vI a_1.At),(vI a_1.Until),(vI a_1.Weight),(vL Rect.enc a_1.Areas),(vS a_1.Text)] rfl rfl wz (fun n_2=>ae (vI 0) wz rfl (ai (af (af (aa (ax BH rfl 3 rfl wz (au 0 0 il ft Md LJ rfl rfl (vL eS a_1.Refs) rfl wz (bP I6 rfl wz (ae (vB (decide ((a_1.Refs.length:Int) > 20))) wz rfl (ai ?_))))))))))))
 rcases ak hF with⟨hc_3,hF⟩ | ⟨hc_3,hF⟩
 ·refine aB rfl hc_3 (af (aa (ae (vI 2) wz rfl (ai ?_))))
  obtain rfl:=ah hF
  exact ay (aM (.inr rfl) [(vI 2)] ⟨rfl,trivial⟩ rfl rfl rfl)
 ·refine aA rfl hc_3 (av (af (af (aa (ax BH rfl 3 rfl wz (au 0 0 il ft Md LJ rfl rfl (vL eS a_1.Refs) rfl wz (bP I6 rfl wz (ae (vI 0) wz rfl (ai ?_)))))))))
  obtain ⟨o_12,hj_13,hF⟩:=bind_some hF
  obtain ⟨hn_8,hj_13⟩:=aQ hj_13
  refine aG (β:=(Unit)) (fun (s_9:Unit)=>([(1,(.ref n_2 0 0))]:List (Nat×V))) (fun (s_9:Unit)=>([(n_2,some (.cells 9 [(vS a_1.Id),(vS a_1.Sender),(vI a_1.Kind),(vL eS a_1.Refs),(vI a_1.At),(vI a_1.Until),(vI a_1.Weight),(vL Rect.enc a_1.Areas),(vS a_1.Text)]))]:Hp)) (fun p=>o_12 = .go p) ?_ ?_
  ·refine aF (aW (β:=Nat×(List ByteArray)×(Unit)) (fun p=>(fun (k_4:Nat) (l_5:List ByteArray) (s_9:Unit)=>([(1,(.ref n_2 0 0)),(10,(vL eS a_1.Refs)),(11,(vI (a_1.Refs.length:Int))),(12,(vI (k_4:Int)))]:List (Nat×V))) p.1 p.2.1 p.2.2) (fun p=>(fun (k_4:Nat) (l_5:List ByteArray) (s_9:Unit)=>([(n_2,some (.cells 9 [(vS a_1.Id),(vS a_1.Sender),(vI a_1.Kind),(vL eS a_1.Refs),(vI a_1.At),(vI a_1.Until),(vI a_1.Weight),(vL Rect.enc a_1.Areas),(vS a_1.Text)]))]:Hp)) p.1 p.2.1 p.2.2) (fun p=>forR (fun k x s=>iW a_1 k x s) p.2.1 p.1 p.2.2=some o_12∧(a_1.Refs).drop p.1=p.2.1) (fun p=>p.2.1.length) (0,a_1.Refs,()) ⟨hj_13,rfl⟩ rfl (aH rfl) ?_)
   rintro ⟨k_4,l_5,s_9⟩ ⟨hL_11,hD_7⟩
   dsimp only at hL_11 hD_7
   cases l_5 with
   | nil =>
    obtain rfl:=ah hL_11
    refine af (aa (ae (vB (decide ((k_4:Int) < (a_1.Refs.length:Int)))) wz rfl (ai ?_)))
    refine af (aA rfl (drop_nil hD_7) (aS ?_))
    exact aP (s_9) rfl rfl (aH rfl)
   | cons x_6 l_5 =>
    obtain ⟨c_,hc_10,hL_11⟩:=bind_some hL_11
    refine af (aa (ae (vB (decide ((k_4:Int) < (a_1.Refs.length:Int)))) wz rfl (ai ?_)))
    refine af (aB rfl (aX hD_7) (av ?_))
    unfold iW at hc_10
    refine af (aF (af (aa (ae (vI (k_4:Int)) wz rfl (dL Ia rfl rfl (bC hD_7) rfl wz (bJ sz9 ag9 rfl (vS x_6) rfl wz (ae (vI (k_4:Int)) wz rfl (ae (vS x_6) wz rfl (ai (aF (af (aa (ae (vS x_6) wz rfl ?_)))))))))))))
    obtain ⟨r_14,hr_15,hc_10⟩:=bind_some hc_10
    refine aC (dN hr_15) rfl qM rfl rfl rfl rfl wz (ae (vB (!r_14)) wz rfl (ae (vB (!r_14)) wz rfl (ai ?_)))
    rcases ak hc_10 with⟨hc_16,hc_10⟩ | ⟨hc_16,hc_10⟩
    ·refine aB rfl hc_16 (af (aa (ae (vI 5) wz rfl (ai ?_))))
     obtain rfl:=ah hc_10
     obtain rfl:=ah hL_11
     obtain rfl:=ah hF
     exact ay (aM (.inr rfl) [(vI 5)] ⟨rfl,trivial⟩ rfl rfl rfl)
    ·refine aA rfl hc_16 (af ?_)
     obtain ⟨v_17,h_18,hc_10⟩:=bind_some hc_10
     refine aG (β:=Unit) (fun _=>([(1,(.ref n_2 0 0)),(4,(vS x_6)),(10,(vL eS a_1.Refs)),(11,(vI (a_1.Refs.length:Int))),(12,(vI (k_4:Int))),(21,(vB v_17))]:List (Nat×V))) (fun _=>([(n_2,some (.cells 9 [(vS a_1.Id),(vS a_1.Sender),(vI a_1.Kind),(vL eS a_1.Refs),(vI a_1.At),(vI a_1.Until),(vI a_1.Weight),(vL Rect.enc a_1.Areas),(vS a_1.Text)]))]:Hp)) (fun _=>True) ?_ ?_
     ·refine aa (ae (vI (k_4:Int)) wz rfl (ae (vB (decide ((k_4:Int) > 0))) wz rfl ?_))
      rcases ak h_18 with⟨hc_19,h_18⟩ | ⟨hc_19,h_18⟩
      ·refine aD rfl hc_19 wz (ae (vS x_6) wa rfl (ax BH rfl 3 rfl wa (au 0 0 il ft Md LJ rfl rfl (vL eS a_1.Refs) rfl wa (ae (vI (k_4:Int)) wa rfl (ae (vI (w64 ((k_4:Int) - 1))) wa rfl ?_)))))
       obtain ⟨y_20,hy_21,h_18⟩:=bind_some h_18
       refine dL Ia rfl rfl hy_21 rfl wa (bJ sz9 ag9 rfl (vS y_20) rfl wa (ae (vB (sLe x_6 y_20)) wa rfl (ae (vB (sLe x_6 y_20)) wz rfl (ae (vB (sLe x_6 y_20)) wz rfl (ai ?_)))))
       obtain rfl:=ah h_18
       exact cu
      ·refine aD rfl hc_19 wz (aj wa (aj wa (aj wa (aj wa (aj wa (aj wa (aj wa (aj wa (ae (vB false) wz rfl (ae (vB false) wz rfl (ai ?_)))))))))))
       obtain rfl:=ah h_18
       exact cu
     ·rintro ⟨⟩ _ sl_ H_ hp_ hq_
      refine aK _ hp_ hq_ ?_
      rcases ak hc_10 with⟨hc_22,hc_10⟩ | ⟨hc_22,hc_10⟩
      ·refine aB rfl hc_22 (af (aa (ae (vI 7) wz rfl (ai ?_))))
       obtain rfl:=ah hc_10
       obtain rfl:=ah hL_11
       obtain rfl:=ah hF
       exact ay (aM (.inr rfl) [(vI 7)] ⟨rfl,trivial⟩ rfl rfl rfl)
      ·refine aA rfl hc_22 (af (aa (ae (vS x_6) wz rfl (ax wM rfl 0 rfl wz (au 0 0 il ft sz9 ag9 rfl rfl (vS a_1.Id) rfl wz (ae (vB (sEq x_6 a_1.Id)) wz rfl (ae (vB (sEq x_6 a_1.Id)) wz rfl (ai ?_))))))))
       rcases ak hc_10 with⟨hc_23,hc_10⟩ | ⟨hc_23,hc_10⟩
       ·refine aB rfl hc_23 (af (aa (ae (vI 14) wz rfl (ai ?_))))
        obtain rfl:=ah hc_10
        obtain rfl:=ah hL_11
        obtain rfl:=ah hF
        exact ay (aM (.inr rfl) [(vI 14)] ⟨rfl,trivial⟩ rfl rfl rfl)
       ·refine aA rfl hc_23 (av (aa (dQ (bu hD_7 hn_8) wz rfl (ae (vI ((k_4 + 1:Nat):Int)) wz rfl (ai ?_)))))
        obtain rfl:=ah hc_10
        exact aR (k_4 + 1,l_5,()) ⟨hL_11,aN hD_7⟩ (Nat.lt_succ_self _) rfl (aH rfl)
  ·rintro s_9 ho_ sl_ H_ hp_ hq_
   subst ho_
   refine aK _ hp_ hq_ (af (af (aa (ax FI rfl 2 rfl wz (au 0 0 il ft sz3 ag3 rfl rfl (vI a_1.Kind) rfl wz (ae (vB (a_1.Kind == 1)) wz rfl (ax BH rfl 3 rfl wz (au 0 0 il ft Md LJ rfl rfl (vL eS a_1.Refs) rfl wz (bP I6 rfl wz (ae (vB ((a_1.Refs.length:Int) == 0)) wz rfl (M4 un4 rfl rfl wz (ai ?_))))))))))))
   rcases ak hF with⟨hc_24,hF⟩ | ⟨hc_24,hF⟩
   ·refine aB rfl hc_24 (af (aa (ae (vI 3) wz rfl (ai ?_))))
    obtain rfl:=ah hF
    exact ay (aM (.inr rfl) [(vI 3)] ⟨rfl,trivial⟩ rfl rfl rfl)
   ·refine aA rfl hc_24 (av (af (aa (ae (vI 0) wz rfl (ai ?_)))))
    obtain rfl:=ah hF
    exact ay (aM (.inr rfl) [(vI 0)] ⟨rfl,trivial⟩ rfl rfl rfl)
theorem cO {s_1:ByteArray} {r:Int} (hF:bA s_1=some r) :
  FnM Tryz.prog 270 [(vS s_1)] [] (.d (.int .u64 r)) []:=by
 refine FnM.of_wH ⟨Tryz.prog,59,[],[]⟩ rfl Tryz.func270 rfl rfl (Nat.le_of_ble_eq_true rfl) (by kernel_rfl) ?_
 unfold bA at hF
 refine af (aa (ae (.d (.int .u64 0)) wz rfl (ai (af (aA rfl rfl (av (af (bB (ae (vS s_1) wz rfl ?_)))))))))
 obtain ⟨b_2,hy_3,hF⟩:=bind_some hF
 refine jR un9 rfl rfl hy_3 wz (oh un5 yT rfl wz (ae (vS s_1) wz rfl ?_))
 obtain ⟨b_4,hy_5,hF⟩:=bind_some hF
 refine jR un9 rfl rfl hy_5 wz (oh un5 yT rfl wz ?_)
 obtain ⟨q_6,hz_7,hF⟩:=bind_some hF
 refine A9 rfl rfl hz_7 wz (ae (.d (.int .u64 (orI .u64 (IntKind.u64.wrap (b_2.toNat:Int)) q_6))) wz rfl (ae (vS s_1) wz rfl ?_))
 obtain ⟨b_8,hy_9,hF⟩:=bind_some hF
 refine jR un9 rfl rfl hy_9 wz (oh un5 yT rfl wz ?_)
 obtain ⟨q_10,hz_11,hF⟩:=bind_some hF
 refine A9 rfl rfl hz_11 wz (ae (.d (.int .u64 (orI .u64 (orI .u64 (IntKind.u64.wrap (b_2.toNat:Int)) q_6) q_10))) wz rfl (ae (vS s_1) wz rfl ?_))
 obtain ⟨b_12,hy_13,hF⟩:=bind_some hF
 refine jR un9 rfl rfl hy_13 wz (oh un5 yT rfl wz ?_)
 obtain ⟨q_14,hz_15,hF⟩:=bind_some hF
 refine A9 rfl rfl hz_15 wz (ae (.d (.int .u64 (orI .u64 (orI .u64 (orI .u64 (IntKind.u64.wrap (b_2.toNat:Int)) q_6) q_10) q_14))) wz rfl (ae (vS s_1) wz rfl ?_))
 obtain ⟨b_16,hy_17,hF⟩:=bind_some hF
 refine jR un9 rfl rfl hy_17 wz (oh un5 yT rfl wz ?_)
 obtain ⟨q_18,hz_19,hF⟩:=bind_some hF
 refine A9 rfl rfl hz_19 wz (ae (.d (.int .u64 (orI .u64 (orI .u64 (orI .u64 (orI .u64 (IntKind.u64.wrap (b_2.toNat:Int)) q_6) q_10) q_14) q_18))) wz rfl (ae (vS s_1) wz rfl ?_))
 obtain ⟨b_20,hy_21,hF⟩:=bind_some hF
 refine jR un9 rfl rfl hy_21 wz (oh un5 yT rfl wz ?_)
 obtain ⟨q_22,hz_23,hF⟩:=bind_some hF
 refine A9 rfl rfl hz_23 wz (ae (.d (.int .u64 (orI .u64 (orI .u64 (orI .u64 (orI .u64 (orI .u64 (IntKind.u64.wrap (b_2.toNat:Int)) q_6) q_10) q_14) q_18) q_22))) wz rfl (ae (vS s_1) wz rfl ?_))
 obtain ⟨b_24,hy_25,hF⟩:=bind_some hF
 refine jR un9 rfl rfl hy_25 wz (oh un5 yT rfl wz ?_)
 obtain ⟨q_26,hz_27,hF⟩:=bind_some hF
 refine A9 rfl rfl hz_27 wz (ae (.d (.int .u64 (orI .u64 (orI .u64 (orI .u64 (orI .u64 (orI .u64 (orI .u64 (IntKind.u64.wrap (b_2.toNat:Int)) q_6) q_10) q_14) q_18) q_22) q_26))) wz rfl (ae (vS s_1) wz rfl ?_))
 obtain ⟨b_28,hy_29,hF⟩:=bind_some hF
 refine jR un9 rfl rfl hy_29 wz (oh un5 yT rfl wz ?_)
 obtain ⟨q_30,hz_31,hF⟩:=bind_some hF
 refine A9 rfl rfl hz_31 wz (ae (.d (.int .u64 (orI .u64 (orI .u64 (orI .u64 (orI .u64 (orI .u64 (orI .u64 (orI .u64 (IntKind.u64.wrap (b_2.toNat:Int)) q_6) q_10) q_14) q_18) q_22) q_26) q_30))) wz rfl (ae (.d (.int .u64 (orI .u64 (orI .u64 (orI .u64 (orI .u64 (orI .u64 (orI .u64 (orI .u64 (IntKind.u64.wrap (b_2.toNat:Int)) q_6) q_10) q_14) q_18) q_22) q_26) q_30))) wz rfl (ai (aK (H0:=([]:Hp)) ([(2,(.d (.int .u64 (orI .u64 (orI .u64 (orI .u64 (orI .u64 (orI .u64 (orI .u64 (orI .u64 (IntKind.u64.wrap (b_2.toNat:Int)) q_6) q_10) q_14) q_18) q_22) q_26) q_30))))]:List (Nat×V)) (by kernel_rfl) (mM (by kernel_rfl)) ?_))))
 obtain rfl:=ah hF
 exact ay (aM (.inr rfl) [(.d (.int .u64 (orI .u64 (orI .u64 (orI .u64 (orI .u64 (orI .u64 (orI .u64 (orI .u64 (IntKind.u64.wrap (b_2.toNat:Int)) q_6) q_10) q_14) q_18) q_22) q_26) q_30)))] ⟨rfl,trivial⟩ rfl rfl rfl)
theorem qx {s_1:ByteArray} {r:Bool} (hF:fB s_1=some r) :
  FnM Tryz.prog 208 [(vS s_1)] [] (vB r) []:=by
 refine FnM.of_wH ⟨Tryz.prog,169,[],[]⟩ rfl Tryz.func208 rfl rfl (Nat.le_of_ble_eq_true rfl) (by kernel_rfl) ?_
 unfold fB at hF
 refine af (aa (ae (vB false) wz rfl (ai (af ?_))))
 obtain ⟨o_10,hj_11,hF⟩:=bind_some hF
 obtain ⟨nq_71,hj_11⟩:=eY hj_11
 refine aG (β:=(ByteArray)) (fun (s_7:ByteArray)=>([]:List (Nat×V))) (fun (s_7:ByteArray)=>([]:Hp)) (fun p=>o_10 = .go p) ?_ ?_
 ·refine aF (aW (β:=Nat×(ByteArray)) (fun p=>(fun (k_2:Nat) (s_7:ByteArray)=>([(0,(vS s_7))]:List (Nat×V))) p.1 p.2) (fun p=>(fun (k_2:Nat) (s_7:ByteArray)=>([]:Hp)) p.1 p.2) (fun p=>iterN (fun s=>ek s) p.1 p.2=some o_10) (fun p=>p.1) (nq_71,s_1) hj_11 rfl (aH rfl) ?_)
  rintro ⟨k_2,s_7⟩ hL_9
  dsimp only at hL_9
  cases k_2 with
  | zero=>cases hL_9
  | succ k_2 =>
   obtain ⟨c_,hc_8,hL_9⟩:=bind_some hL_9
   unfold ek at hc_8
   refine af (af (aa (ae (vS s_7) wz rfl (lu un9 rfl wz (ae (vB (decide ((s_7.size:Int) > 0))) wz rfl (ai ?_))))))
   rcases ak hc_8 with⟨hc_12,hc_8⟩ | ⟨hc_12,hc_8⟩
   ·refine aB rfl hc_12 (av (aF (af (aa (ae (vS s_7) wz rfl ?_)))))
    obtain ⟨b_13,hy_14,hc_8⟩:=bind_some hc_8
    refine jR un9 rfl rfl hy_14 wz (ae (.d (.int .u8 (b_13.toNat:Int))) wz rfl (ai (af (af (aa (ae (.d (.int .u8 (b_13.toNat:Int))) wz rfl (ae (vB (decide ((b_13.toNat:Int) < 128))) wz rfl (ai ?_))))))))
    rcases ak hc_8 with⟨hc_15,hc_8⟩ | ⟨hc_15,hc_8⟩
    ·refine aB rfl hc_15 (af (aa (ae (vS s_7) wz rfl ?_)))
     obtain ⟨y_16,hy_17,hc_8⟩:=bind_some hc_8
     refine fJ un9 rfl rfl hy_17 wz (ae (vS y_16) wz rfl (ai (af (af ?_))))
     obtain ⟨v_18,h_19,hc_8⟩:=bind_some hc_8
     refine aG (β:=Unit) (fun _=>([(0,(vS y_16)),(24,(vB v_18))]:List (Nat×V))) (fun _=>([]:Hp)) (fun _=>True) ?_ ?_
     ·refine aa (ae (vS y_16) wz rfl (lu un9 rfl wz (ae (vB (decide ((y_16.size:Int) > 8))) wz rfl ?_)))
      rcases ak h_19 with⟨hc_20,h_19⟩ | ⟨hc_20,h_19⟩
      ·refine aD rfl hc_20 wz (ae (vS y_16) wa rfl ?_)
       obtain ⟨r_21,hr_22,h_19⟩:=bind_some h_19
       refine aC (cO hr_22) rfl Dm rfl rfl rfl rfl wa (ae (.d (.int .u64 (uj .u64 r_21 9259542123273814144))) wa rfl (ae (vB ((uj .u64 r_21 9259542123273814144) == 0)) wa rfl (ae (vB ((uj .u64 r_21 9259542123273814144) == 0)) wz rfl (ai ?_))))
       obtain rfl:=ah h_19
       exact cu
      ·refine aD rfl hc_20 wz (aj wa (aj wa (aj wa (aj wa (ae (vB false) wz rfl (ai ?_))))))
       obtain rfl:=ah h_19
       exact cu
     ·rintro ⟨⟩ _ sl_ H_ hp_ hq_
      refine aK _ hp_ hq_ ?_
      obtain ⟨v_23,h_24,hc_8⟩:=bind_some hc_8
      refine aG (β:=Unit) (fun _=>([(0,(vS v_23))]:List (Nat×V))) (fun _=>([]:Hp)) (fun _=>True) ?_ ?_
      ·rcases ak h_24 with⟨hc_25,h_24⟩ | ⟨hc_25,h_24⟩
       ·refine aB rfl hc_25 (af (aa (ae (vS y_16) wz rfl ?_)))
        obtain ⟨y_26,hy_27,h_24⟩:=bind_some h_24
        refine fJ un9 rfl rfl hy_27 wz (ae (vS y_26) wz rfl (ai (af ?_)))
        obtain ⟨v_28,h_29,h_24⟩:=bind_some h_24
        refine aG (β:=Unit) (fun _=>([(0,(vS y_26)),(39,(vB v_28))]:List (Nat×V))) (fun _=>([]:Hp)) (fun _=>True) ?_ ?_
        ·refine bB (ae (vS y_26) wz rfl (lu un9 rfl wz (ae (vB (decide ((y_26.size:Int) > 16))) wz rfl ?_)))
         rcases ak h_29 with⟨hc_30,h_29⟩ | ⟨hc_30,h_29⟩
         ·refine aD rfl hc_30 wz (ae (vS y_26) wa rfl ?_)
          obtain ⟨r_31,hr_32,h_29⟩:=bind_some h_29
          refine aC (cO hr_32) rfl Dm rfl rfl rfl rfl wa (ae (vS y_26) wa rfl ?_)
          obtain ⟨y_33,hy_34,h_29⟩:=bind_some h_29
          refine fJ un9 rfl rfl hy_34 wa ?_
          obtain ⟨r_35,hr_36,h_29⟩:=bind_some h_29
          refine aC (cO hr_36) rfl Dm rfl rfl rfl rfl wa (ae (.d (.int .u64 (orI .u64 r_31 r_35))) wa rfl (ae (.d (.int .u64 (uj .u64 (orI .u64 r_31 r_35) 9259542123273814144))) wa rfl (ae (vB ((uj .u64 (orI .u64 r_31 r_35) 9259542123273814144) == 0)) wa rfl (ae (vB ((uj .u64 (orI .u64 r_31 r_35) 9259542123273814144) == 0)) wz rfl (ai ?_)))))
          obtain rfl:=ah h_29
          exact cu
         ·refine aD rfl hc_30 wz (aj wa (aj wa (aj wa (aj wa (aj wa (aj wa (aj wa (aj wa (ae (vB false) wz rfl (ai ?_))))))))))
          obtain rfl:=ah h_29
          exact cu
        ·rintro ⟨⟩ _ sl_ H_ hp_ hq_
         refine aK _ hp_ hq_ ?_
         rcases ak h_24 with⟨hc_37,h_24⟩ | ⟨hc_37,h_24⟩
         ·refine aB rfl hc_37 (af (aa (ae (vS y_26) wz rfl ?_)))
          obtain ⟨y_38,hy_39,h_24⟩:=bind_some h_24
          refine fJ un9 rfl rfl hy_39 wz (ae (vS y_38) wz rfl (ai ?_))
          obtain ⟨o_48,hj_49,h_24⟩:=bind_some h_24
          obtain ⟨nq_70,hj_49⟩:=eY hj_49
          refine aG (β:=(ByteArray)) (fun (s_45:ByteArray)=>([(0,(vS s_45))]:List (Nat×V))) (fun (s_45:ByteArray)=>([]:Hp)) (fun p=>o_48 = .go p) ?_ ?_
          ·refine aF (aW (β:=Nat×(ByteArray)) (fun p=>(fun (k_40:Nat) (s_45:ByteArray)=>([(0,(vS s_45))]:List (Nat×V))) p.1 p.2) (fun p=>(fun (k_40:Nat) (s_45:ByteArray)=>([]:Hp)) p.1 p.2) (fun p=>iterN (fun s=>fF s) p.1 p.2=some o_48) (fun p=>p.1) (nq_70,y_38) hj_49 rfl (aH rfl) ?_)
           rintro ⟨k_40,s_45⟩ hL_47
           dsimp only at hL_47
           cases k_40 with
           | zero=>cases hL_47
           | succ k_40 =>
            obtain ⟨c_,hc_46,hL_47⟩:=bind_some hL_47
            unfold fF at hc_46
            refine af (af ?_)
            obtain ⟨v_50,h_51,hc_46⟩:=bind_some hc_46
            refine aG (β:=Unit) (fun _=>([(0,(vS s_45)),(62,(vB v_50))]:List (Nat×V))) (fun _=>([]:Hp)) (fun _=>True) ?_ ?_
            ·refine bB (ae (vS s_45) wz rfl (lu un9 rfl wz (ae (vB (decide ((s_45.size:Int) > 32))) wz rfl ?_)))
             rcases ak h_51 with⟨hc_52,h_51⟩ | ⟨hc_52,h_51⟩
             ·refine aD rfl hc_52 wz (ae (vS s_45) wa rfl ?_)
              obtain ⟨r_53,hr_54,h_51⟩:=bind_some h_51
              refine aC (cO hr_54) rfl Dm rfl rfl rfl rfl wa (ae (vS s_45) wa rfl ?_)
              obtain ⟨y_55,hy_56,h_51⟩:=bind_some h_51
              refine fJ un9 rfl rfl hy_56 wa ?_
              obtain ⟨r_57,hr_58,h_51⟩:=bind_some h_51
              refine aC (cO hr_58) rfl Dm rfl rfl rfl rfl wa (ae (.d (.int .u64 (orI .u64 r_53 r_57))) wa rfl (ae (vS s_45) wa rfl ?_))
              obtain ⟨y_59,hy_60,h_51⟩:=bind_some h_51
              refine fJ un9 rfl rfl hy_60 wa ?_
              obtain ⟨r_61,hr_62,h_51⟩:=bind_some h_51
              refine aC (cO hr_62) rfl Dm rfl rfl rfl rfl wa (ae (vS s_45) wa rfl ?_)
              obtain ⟨y_63,hy_64,h_51⟩:=bind_some h_51
              refine fJ un9 rfl rfl hy_64 wa ?_
              obtain ⟨r_65,hr_66,h_51⟩:=bind_some h_51
              refine aC (cO hr_66) rfl Dm rfl rfl rfl rfl wa (ae (.d (.int .u64 (orI .u64 r_61 r_65))) wa rfl (ae (.d (.int .u64 (orI .u64 (orI .u64 r_53 r_57) (orI .u64 r_61 r_65)))) wa rfl (ae (.d (.int .u64 (uj .u64 (orI .u64 (orI .u64 r_53 r_57) (orI .u64 r_61 r_65)) 9259542123273814144))) wa rfl (ae (vB ((uj .u64 (orI .u64 (orI .u64 r_53 r_57) (orI .u64 r_61 r_65)) 9259542123273814144) == 0)) wa rfl (ae (vB ((uj .u64 (orI .u64 (orI .u64 r_53 r_57) (orI .u64 r_61 r_65)) 9259542123273814144) == 0)) wz rfl (ai ?_))))))
              obtain rfl:=ah h_51
              exact cu
             ·refine aD rfl hc_52 wz (aj wa (aj wa (aj wa (aj wa (aj wa (aj wa (aj wa (aj wa (aj wa (aj wa (aj wa (aj wa (aj wa (aj wa (aj wa (aj wa (ae (vB false) wz rfl (ai ?_))))))))))))))))))
              obtain rfl:=ah h_51
              exact cu
            ·rintro ⟨⟩ _ sl_ H_ hp_ hq_
             refine aK _ hp_ hq_ ?_
             rcases ak hc_46 with⟨hc_67,hc_46⟩ | ⟨hc_67,hc_46⟩
             ·refine aB rfl hc_67 (av (aF (aa (ae (vS s_45) wz rfl ?_))))
              obtain ⟨y_68,hy_69,hc_46⟩:=bind_some hc_46
              refine fJ un9 rfl rfl hy_69 wz (ae (vS y_68) wz rfl (ai ?_))
              obtain rfl:=ah hc_46
              exact aR (k_40,y_68) hL_47 (Nat.lt_succ_self _) rfl (aH rfl)
             ·refine aA rfl hc_67 (aS ?_)
              obtain rfl:=ah hc_46
              obtain rfl:=ah hL_47
              exact aP (s_45) rfl rfl (aH rfl)
          ·rintro s_45 ho_ sl_ H_ hp_ hq_
           subst ho_
           obtain rfl:=ah h_24
           exact aP () trivial (pick_at [0] hp_ rfl) (pre_at hq_ (aH rfl))
         ·refine aA rfl hc_37 (av ?_)
          obtain rfl:=ah h_24
          exact cu
       ·refine aA rfl hc_25 (av ?_)
        obtain rfl:=ah h_24
        exact cu
      ·rintro ⟨⟩ _ sl_ H_ hp_ hq_
       refine aK _ hp_ hq_ (aS ?_)
       obtain rfl:=ah hc_8
       exact aR (k_2,v_23) hL_9 (Nat.lt_succ_self _) rfl (aH rfl)
    ·refine aA rfl hc_15 (av (af (aa (ae (.d (.int .u8 (b_13.toNat:Int))) wz rfl ?_))))
     cases hc_8
   ·refine aA rfl hc_12 (aS ?_)
    obtain rfl:=ah hc_8
    obtain rfl:=ah hL_9
    exact aP (s_7) rfl rfl (aH rfl)
 ·rintro s_7 ho_ sl_ H_ hp_ hq_
  subst ho_
  refine aK _ hp_ hq_ (af (aa (ae (vB true) wz rfl (ai ?_))))
  obtain rfl:=ah hF
  exact ay (aM (.inr rfl) [(vB true)] ⟨rfl,trivial⟩ rfl rfl rfl)
theorem rY {s_1:ByteArray} {c_2:Int} {r:ByteArray} (hF:strings_trimRightByte s_1 c_2=some r) :
  FnM Tryz.prog 273 [(vS s_1),(.d (.int .u8 c_2))] [] (vS r) []:=by
 refine FnM.of_wH ⟨Tryz.prog,23,[],[]⟩ rfl Tryz.func273 rfl rfl (Nat.le_of_ble_eq_true rfl) (by kernel_rfl) ?_
 unfold strings_trimRightByte at hF
 refine af (aa (ae (vS (⟨#[]⟩:ByteArray)) wz rfl (ai (af ?_))))
 obtain ⟨o_11,hj_12,hF⟩:=bind_some hF
 obtain ⟨nq_21,hj_12⟩:=eY hj_12
 refine aG (β:=(ByteArray)) (fun (s_8:ByteArray)=>([(0,(vS s_8))]:List (Nat×V))) (fun (s_8:ByteArray)=>([]:Hp)) (fun p=>o_11 = .go p) ?_ ?_
 ·refine aF (aW (β:=Nat×(ByteArray)) (fun p=>(fun (k_3:Nat) (s_8:ByteArray)=>([(0,(vS s_8)),(1,(.d (.int .u8 c_2)))]:List (Nat×V))) p.1 p.2) (fun p=>(fun (k_3:Nat) (s_8:ByteArray)=>([]:Hp)) p.1 p.2) (fun p=>iterN (fun s=>gH c_2 s) p.1 p.2=some o_11) (fun p=>p.1) (nq_21,s_1) hj_12 rfl (aH rfl) ?_)
  rintro ⟨k_3,s_8⟩ hL_10
  dsimp only at hL_10
  cases k_3 with
  | zero=>cases hL_10
  | succ k_3 =>
   obtain ⟨c_,hc_9,hL_10⟩:=bind_some hL_10
   unfold gH at hc_9
   refine af (af ?_)
   obtain ⟨v_13,h_14,hc_9⟩:=bind_some hc_9
   refine aG (β:=Unit) (fun _=>([(0,(vS s_8)),(1,(.d (.int .u8 c_2))),(16,(vB v_13))]:List (Nat×V))) (fun _=>([]:Hp)) (fun _=>True) ?_ ?_
   ·refine aa (ae (vS s_8) wz rfl (lu un9 rfl wz (ae (vB (decide ((s_8.size:Int) > 0))) wz rfl ?_)))
    rcases ak h_14 with⟨hc_15,h_14⟩ | ⟨hc_15,h_14⟩
    ·refine aD rfl hc_15 wz (ae (vS s_8) wa rfl (ae (vS s_8) wa rfl (lu un9 rfl wa (ae (vI (w64 ((s_8.size:Int) - 1))) wa rfl ?_))))
     obtain ⟨b_16,hy_17,h_14⟩:=bind_some h_14
     refine jR un9 rfl rfl hy_17 wa (ae (.d (.int .u8 c_2)) wa rfl (ae (vB ((b_16.toNat:Int) == c_2)) wa rfl (ae (vB ((b_16.toNat:Int) == c_2)) wz rfl (ai ?_))))
     obtain rfl:=ah h_14
     exact cu
    ·refine aD rfl hc_15 wz (aj wa (aj wa (aj wa (aj wa (aj wa (aj wa (aj wa (ae (vB false) wz rfl (ai ?_)))))))))
     obtain rfl:=ah h_14
     exact cu
   ·rintro ⟨⟩ _ sl_ H_ hp_ hq_
    refine aK _ hp_ hq_ ?_
    rcases ak hc_9 with⟨hc_18,hc_9⟩ | ⟨hc_18,hc_9⟩
    ·refine aB rfl hc_18 (av (aF (aa (ae (vS s_8) wz rfl (ae (vS s_8) wz rfl (lu un9 rfl wz (ae (vI (w64 ((s_8.size:Int) - 1))) wz rfl ?_)))))))
     obtain ⟨y_19,hy_20,hc_9⟩:=bind_some hc_9
     refine vT un9 rfl rfl hy_20 wz (ae (vS y_19) wz rfl (ai ?_))
     obtain rfl:=ah hc_9
     exact aR (k_3,y_19) hL_10 (Nat.lt_succ_self _) rfl (aH rfl)
    ·refine aA rfl hc_18 (aS ?_)
     obtain rfl:=ah hc_9
     obtain rfl:=ah hL_10
     exact aP (s_8) rfl rfl (aH rfl)
 ·rintro s_8 ho_ sl_ H_ hp_ hq_
  subst ho_
  refine aK _ hp_ hq_ (af (aa (ae (vS s_8) wz rfl (ae (vS s_8) wz rfl (ai ?_)))))
  obtain rfl:=ah hF
  exact ay (aM (.inr rfl) [(vS s_8)] ⟨rfl,trivial⟩ rfl rfl rfl)
theorem tC {s_1:ByteArray} {c_2:Int} {r:ByteArray} (hF:strings_trimLeftByte s_1 c_2=some r) :
  FnM Tryz.prog 272 [(vS s_1),(.d (.int .u8 c_2))] [] (vS r) []:=by
 refine FnM.of_wH ⟨Tryz.prog,17,[],[]⟩ rfl Tryz.func272 rfl rfl (Nat.le_of_ble_eq_true rfl) (by kernel_rfl) ?_
 unfold strings_trimLeftByte at hF
 refine af (aa (ae (vS (⟨#[]⟩:ByteArray)) wz rfl (ai (af ?_))))
 obtain ⟨o_11,hj_12,hF⟩:=bind_some hF
 obtain ⟨nq_21,hj_12⟩:=eY hj_12
 refine aG (β:=(ByteArray)) (fun (s_8:ByteArray)=>([(0,(vS s_8))]:List (Nat×V))) (fun (s_8:ByteArray)=>([]:Hp)) (fun p=>o_11 = .go p) ?_ ?_
 ·refine aF (aW (β:=Nat×(ByteArray)) (fun p=>(fun (k_3:Nat) (s_8:ByteArray)=>([(0,(vS s_8)),(1,(.d (.int .u8 c_2)))]:List (Nat×V))) p.1 p.2) (fun p=>(fun (k_3:Nat) (s_8:ByteArray)=>([]:Hp)) p.1 p.2) (fun p=>iterN (fun s=>ib c_2 s) p.1 p.2=some o_11) (fun p=>p.1) (nq_21,s_1) hj_12 rfl (aH rfl) ?_)
  rintro ⟨k_3,s_8⟩ hL_10
  dsimp only at hL_10
  cases k_3 with
  | zero=>cases hL_10
  | succ k_3 =>
   obtain ⟨c_,hc_9,hL_10⟩:=bind_some hL_10
   unfold ib at hc_9
   refine af (af ?_)
   obtain ⟨v_13,h_14,hc_9⟩:=bind_some hc_9
   refine aG (β:=Unit) (fun _=>([(0,(vS s_8)),(1,(.d (.int .u8 c_2))),(13,(vB v_13))]:List (Nat×V))) (fun _=>([]:Hp)) (fun _=>True) ?_ ?_
   ·refine aa (ae (vS s_8) wz rfl (lu un9 rfl wz (ae (vB (decide ((s_8.size:Int) > 0))) wz rfl ?_)))
    rcases ak h_14 with⟨hc_15,h_14⟩ | ⟨hc_15,h_14⟩
    ·refine aD rfl hc_15 wz (ae (vS s_8) wa rfl ?_)
     obtain ⟨b_16,hy_17,h_14⟩:=bind_some h_14
     refine jR un9 rfl rfl hy_17 wa (ae (.d (.int .u8 c_2)) wa rfl (ae (vB ((b_16.toNat:Int) == c_2)) wa rfl (ae (vB ((b_16.toNat:Int) == c_2)) wz rfl (ai ?_))))
     obtain rfl:=ah h_14
     exact cu
    ·refine aD rfl hc_15 wz (aj wa (aj wa (aj wa (aj wa (ae (vB false) wz rfl (ai ?_))))))
     obtain rfl:=ah h_14
     exact cu
   ·rintro ⟨⟩ _ sl_ H_ hp_ hq_
    refine aK _ hp_ hq_ ?_
    rcases ak hc_9 with⟨hc_18,hc_9⟩ | ⟨hc_18,hc_9⟩
    ·refine aB rfl hc_18 (av (aF (aa (ae (vS s_8) wz rfl ?_))))
     obtain ⟨y_19,hy_20,hc_9⟩:=bind_some hc_9
     refine fJ un9 rfl rfl hy_20 wz (ae (vS y_19) wz rfl (ai ?_))
     obtain rfl:=ah hc_9
     exact aR (k_3,y_19) hL_10 (Nat.lt_succ_self _) rfl (aH rfl)
    ·refine aA rfl hc_18 (aS ?_)
     obtain rfl:=ah hc_9
     obtain rfl:=ah hL_10
     exact aP (s_8) rfl rfl (aH rfl)
 ·rintro s_8 ho_ sl_ H_ hp_ hq_
  subst ho_
  refine aK _ hp_ hq_ (af (aa (ae (vS s_8) wz rfl (ae (vS s_8) wz rfl (ai ?_)))))
  obtain rfl:=ah hF
  exact ay (aM (.inr rfl) [(vS s_8)] ⟨rfl,trivial⟩ rfl rfl rfl)
theorem BB {s_1:ByteArray} {cutset_2:ByteArray} {r:ByteArray} (hF:nG s_1 cutset_2=some r) :
  FnM Tryz.prog 211 [(vS s_1),(vS cutset_2)] [] (vS r) []:=by
 refine FnM.of_wH ⟨Tryz.prog,43,[],[]⟩ rfl Tryz.func211 rfl rfl (Nat.le_of_ble_eq_true rfl) (by kernel_rfl) ?_
 unfold nG at hF
 refine af (aa (ae (vS (⟨#[]⟩:ByteArray)) wz rfl (ai (af (af ?_)))))
 obtain ⟨v_3,h_4,hF⟩:=bind_some hF
 refine aG (β:=Unit) (fun _=>([(0,(vS s_1)),(1,(vS cutset_2)),(12,(vB v_3))]:List (Nat×V))) (fun _=>([]:Hp)) (fun _=>True) ?_ ?_
 ·refine aa (ae (vS s_1) wz rfl (ae (vB (sEq s_1 (⟨#[]⟩:ByteArray))) wz rfl ?_))
  rcases ak h_4 with⟨hc_5,h_4⟩ | ⟨hc_5,h_4⟩
  ·refine aD rfl hc_5 wz (aj wa (aj wa (ae (vB true) wz rfl (ai ?_))))
   obtain rfl:=ah h_4
   exact cu
  ·refine aD rfl hc_5 wz (ae (vS cutset_2) wa rfl (ae (vB (sEq cutset_2 (⟨#[]⟩:ByteArray))) wa rfl (ae (vB (sEq cutset_2 (⟨#[]⟩:ByteArray))) wz rfl (ai ?_))))
   obtain rfl:=ah h_4
   exact cu
 ·rintro ⟨⟩ _ sl_ H_ hp_ hq_
  refine aK _ hp_ hq_ ?_
  rcases ak hF with⟨hc_6,hF⟩ | ⟨hc_6,hF⟩
  ·refine aB rfl hc_6 (af (aa (ae (vS s_1) wz rfl (ae (vS s_1) wz rfl (ai ?_)))))
   obtain rfl:=ah hF
   exact ay (aM (.inr rfl) [(vS s_1)] ⟨rfl,trivial⟩ rfl rfl rfl)
  ·refine aA rfl hc_6 (av (af (af ?_)))
   obtain ⟨v_7,h_8,hF⟩:=bind_some hF
   refine aG (β:=Unit) (fun _=>([(0,(vS s_1)),(1,(vS cutset_2)),(21,(vB v_7))]:List (Nat×V))) (fun _=>([]:Hp)) (fun _=>True) ?_ ?_
   ·refine aa (ae (vS cutset_2) wz rfl (lu un9 rfl wz (ae (vB ((cutset_2.size:Int) == 1)) wz rfl ?_)))
    rcases ak h_8 with⟨hc_9,h_8⟩ | ⟨hc_9,h_8⟩
    ·refine aD rfl hc_9 wz (ae (vS cutset_2) wa rfl ?_)
     obtain ⟨b_10,hy_11,h_8⟩:=bind_some h_8
     refine jR un9 rfl rfl hy_11 wa (ae (vB (decide ((b_10.toNat:Int) < 128))) wa rfl (ae (vB (decide ((b_10.toNat:Int) < 128))) wz rfl (ai ?_)))
     obtain rfl:=ah h_8
     exact cu
    ·refine aD rfl hc_9 wz (aj wa (aj wa (aj wa (ae (vB false) wz rfl (ai ?_)))))
     obtain rfl:=ah h_8
     exact cu
   ·rintro ⟨⟩ _ sl_ H_ hp_ hq_
    refine aK _ hp_ hq_ ?_
    rcases ak hF with⟨hc_12,hF⟩ | ⟨hc_12,hF⟩
    ·refine aB rfl hc_12 (af (bB (ae (vS s_1) wz rfl (ae (vS cutset_2) wz rfl ?_))))
     obtain ⟨b_13,hy_14,hF⟩:=bind_some hF
     refine jR un9 rfl rfl hy_14 wz ?_
     obtain ⟨r_15,hr_16,hF⟩:=bind_some hF
     refine aC (rY hr_16) rfl hb273 rfl rfl rfl rfl wz (ae (vS cutset_2) wz rfl ?_)
     obtain ⟨b_17,hy_18,hF⟩:=bind_some hF
     refine jR un9 rfl rfl hy_18 wz ?_
     obtain ⟨r_19,hr_20,hF⟩:=bind_some hF
     refine aC (tC hr_20) rfl hb272 rfl rfl rfl rfl wz (ae (vS r_19) wz rfl (ai ?_))
     obtain rfl:=ah hF
     exact ay (aM (.inr rfl) [(vS r_19)] ⟨rfl,trivial⟩ rfl rfl rfl)
    ·refine aA rfl hc_12 (av (af (af (aa (ae (vS cutset_2) wz rfl ?_)))))
     cases hF
theorem o6 {s_1:ByteArray} {substr_2:ByteArray} {r:Int} (hF:iT s_1 substr_2=some r) :
  FnM Tryz.prog 319 [(vS s_1),(vS substr_2)] [] (vI r) []:=by
 refine FnM.of_wH ⟨Tryz.prog,143,[],[]⟩ rfl Tryz.func319 rfl rfl (Nat.le_of_ble_eq_true rfl) (by kernel_rfl) ?_
 unfold iT at hF
 refine af (aa (ae (vI 0) wz rfl (ai (af (aa (ae (vS substr_2) wz rfl (lu un9 rfl wz (ae (vI (substr_2.size:Int)) wz rfl (ai (af (aF (af ?_))))))))))))
 obtain ⟨v_3,h_4,hF⟩:=bind_some hF
 refine aG (β:=Unit) (fun _=>([(0,(vS s_1)),(1,(vS substr_2)),(5,(vI (substr_2.size:Int))),(16,(vB v_3))]:List (Nat×V))) (fun _=>([]:Hp)) (fun _=>True) ?_ ?_
 ·refine aa (ae (vI (substr_2.size:Int)) wz rfl (ae (vB ((substr_2.size:Int) == 0)) wz rfl ?_))
  rcases ak h_4 with⟨hc_5,h_4⟩ | ⟨hc_5,h_4⟩
  ·refine aD rfl hc_5 wz (aj wa (aj wa (aj wa (ae (vB true) wz rfl (ae (vB true) wz rfl (ai ?_))))))
   obtain rfl:=ah h_4
   exact cu
  ·refine aD rfl hc_5 wz (ae (vS substr_2) wa rfl (ae (vS s_1) wa rfl (ae (vB (sEq substr_2 s_1)) wa rfl (ae (vB (sEq substr_2 s_1)) wz rfl (ae (vB (sEq substr_2 s_1)) wz rfl (ai ?_))))))
   obtain rfl:=ah h_4
   exact cu
 ·rintro ⟨⟩ _ sl_ H_ hp_ hq_
  refine aK _ hp_ hq_ ?_
  rcases ak hF with⟨hc_6,hF⟩ | ⟨hc_6,hF⟩
  ·refine aB rfl hc_6 (af (aa (ae (vI 0) wz rfl (ai ?_))))
   obtain rfl:=ah hF
   exact ay (aM (.inr rfl) [(vI 0)] ⟨rfl,trivial⟩ rfl rfl rfl)
  ·refine aA rfl hc_6 (af (aa (ae (vI (substr_2.size:Int)) wz rfl (ae (vB ((substr_2.size:Int) == 1)) wz rfl (ae (vB ((substr_2.size:Int) == 1)) wz rfl (ai ?_))))))
   rcases ak hF with⟨hc_7,hF⟩ | ⟨hc_7,hF⟩
   ·refine aB rfl hc_7 (af (aa (ae (vS s_1) wz rfl (ae (vS substr_2) wz rfl ?_))))
    obtain ⟨b_8,hy_9,hF⟩:=bind_some hF
    refine jR un9 rfl rfl hy_9 wz ?_
    obtain ⟨r_10,hr_11,hF⟩:=bind_some hF
    refine aC (iZ hr_11) rfl hb280 rfl rfl rfl rfl wz (ae (vI r_10) wz rfl (ai ?_))
    obtain rfl:=ah hF
    exact ay (aM (.inr rfl) [(vI r_10)] ⟨rfl,trivial⟩ rfl rfl rfl)
   ·refine aA rfl hc_7 (af (aa (ae (vI (substr_2.size:Int)) wz rfl (ae (vS s_1) wz rfl (lu un9 rfl wz (ae (vB (decide ((substr_2.size:Int)≥(s_1.size:Int)))) wz rfl (ae (vB (decide ((substr_2.size:Int)≥(s_1.size:Int)))) wz rfl (ai ?_))))))))
    rcases ak hF with⟨hc_12,hF⟩ | ⟨hc_12,hF⟩
    ·refine aB rfl hc_12 (af (aa (ae (vI (-1)) wz rfl (ai ?_))))
     obtain rfl:=ah hF
     exact ay (aM (.inr rfl) [(vI (-1))] ⟨rfl,trivial⟩ rfl rfl rfl)
    ·refine aA rfl hc_12 (af (aa (ae (vI (substr_2.size:Int)) wz rfl ?_)))
     cases hF
theorem zZ {s_1:ByteArray} {substr_2:ByteArray} {r:Int} (hF:strings_Index s_1 substr_2=some r) :
  FnM Tryz.prog 279 [(vS s_1),(vS substr_2)] [] (vI r) []:=by
 refine FnM.of_wH ⟨Tryz.prog,8,[],[]⟩ rfl Tryz.func279 rfl rfl (Nat.le_of_ble_eq_true rfl) (by kernel_rfl) ?_
 unfold strings_Index at hF
 refine af (aa (ae (vI 0) wz rfl (ai (af (aa (ae (vS s_1) wz rfl (ae (vS substr_2) wz rfl ?_)))))))
 obtain ⟨r_3,hr_4,hF⟩:=bind_some hF
 refine aC (o6 hr_4) rfl hb319 rfl rfl rfl rfl wz (ae (vI r_3) wz rfl (ai ?_))
 obtain rfl:=ah hF
 exact ay (aM (.inr rfl) [(vI r_3)] ⟨rfl,trivial⟩ rfl rfl rfl)
theorem xm {s_1:ByteArray} {substr_2:ByteArray} {r:Bool} (hF:strings_Contains s_1 substr_2=some r) :
  FnM Tryz.prog 212 [(vS s_1),(vS substr_2)] [] (vB r) []:=by
 refine FnM.of_wH ⟨Tryz.prog,9,[],[]⟩ rfl Tryz.func212 rfl rfl (Nat.le_of_ble_eq_true rfl) (by kernel_rfl) ?_
 unfold strings_Contains at hF
 refine af (aa (ae (vB false) wz rfl (ai (af (aa (ae (vS s_1) wz rfl (ae (vS substr_2) wz rfl ?_)))))))
 obtain ⟨r_3,hr_4,hF⟩:=bind_some hF
 refine aC (zZ hr_4) rfl hb279 rfl rfl rfl rfl wz (ae (vB (decide (r_3≥0))) wz rfl (ae (vB (decide (r_3≥0))) wz rfl (ai ?_)))
 obtain rfl:=ah hF
 exact ay (aM (.inr rfl) [(vB (decide (r_3≥0)))] ⟨rfl,trivial⟩ rfl rfl rfl)
theorem Ee {s_1:ByteArray} {r:Bool} (hF:o7 s_1=some r) :
  FnM Tryz.prog 269 [(vS s_1)] [] (vB r) []:=by
 refine FnM.of_wH ⟨Tryz.prog,33,[],[]⟩ rfl Tryz.func269 rfl rfl (Nat.le_of_ble_eq_true rfl) (by kernel_rfl) ?_
 unfold o7 at hF
 refine af (aa (ae (vB false) wz rfl (ai (af (af (aa (ae (vI 0) wz rfl (ai ?_))))))))
 obtain ⟨o_10,hj_11,hF⟩:=bind_some hF
 obtain ⟨nq_31,hj_11⟩:=eY hj_11
 refine aG (β:=(Int)) (fun (s_7:Int)=>([(0,(vS s_1))]:List (Nat×V))) (fun (s_7:Int)=>([]:Hp)) (fun p=>o_10 = .go p) ?_ ?_
 ·refine aF (aW (β:=Nat×(Int)) (fun p=>(fun (k_2:Nat) (s_7:Int)=>([(0,(vS s_1)),(3,(vI s_7))]:List (Nat×V))) p.1 p.2) (fun p=>(fun (k_2:Nat) (s_7:Int)=>([]:Hp)) p.1 p.2) (fun p=>iterN (fun s=>nP s_1 s) p.1 p.2=some o_10) (fun p=>p.1) (nq_31,0) hj_11 rfl (aH rfl) ?_)
  rintro ⟨k_2,s_7⟩ hL_9
  dsimp only at hL_9
  cases k_2 with
  | zero=>cases hL_9
  | succ k_2 =>
   obtain ⟨c_,hc_8,hL_9⟩:=bind_some hL_9
   unfold nP at hc_8
   refine af (af (aa (ae (vI s_7) wz rfl (ae (vS s_1) wz rfl (lu un9 rfl wz (ae (vB (decide (s_7 < (s_1.size:Int)))) wz rfl (ai ?_)))))))
   rcases ak hc_8 with⟨hc_12,hc_8⟩ | ⟨hc_12,hc_8⟩
   ·refine aB rfl hc_12 (av (af (aF (af ?_))))
    obtain ⟨v_13,h_14,hc_8⟩:=bind_some hc_8
    refine aG (β:=Unit) (fun _=>([(0,(vS s_1)),(3,(vI s_7)),(19,(vB v_13))]:List (Nat×V))) (fun _=>([]:Hp)) (fun _=>True) ?_ ?_
    ·refine aa (ae (vS s_1) wz rfl (ae (vI s_7) wz rfl ?_))
     obtain ⟨b_15,hy_16,h_14⟩:=bind_some h_14
     refine jR un9 rfl rfl hy_16 wz (ae (vB (decide ((b_15.toNat:Int) < 32))) wz rfl ?_)
     rcases ak h_14 with⟨hc_17,h_14⟩ | ⟨hc_17,h_14⟩
     ·refine aD rfl hc_17 wz (aj wa (aj wa (aj wa (aj wa (ae (vB true) wz rfl (ai ?_))))))
      obtain rfl:=ah h_14
      exact cu
     ·refine aD rfl hc_17 wz (ae (vS s_1) wa rfl (ae (vI s_7) wa rfl ?_))
      obtain ⟨b_18,hy_19,h_14⟩:=bind_some h_14
      refine jR un9 rfl rfl hy_19 wa (ae (vB ((b_18.toNat:Int) == 127)) wa rfl (ae (vB ((b_18.toNat:Int) == 127)) wz rfl (ai ?_)))
      obtain rfl:=ah h_14
      exact cu
    ·rintro ⟨⟩ _ sl_ H_ hp_ hq_
     refine aK _ hp_ hq_ ?_
     rcases ak hc_8 with⟨hc_20,hc_8⟩ | ⟨hc_20,hc_8⟩
     ·refine aB rfl hc_20 (af (aa (ae (vB false) wz rfl (ai ?_))))
      obtain rfl:=ah hc_8
      obtain rfl:=ah hL_9
      obtain rfl:=ah hF
      exact ay (aM (.inr rfl) [(vB false)] ⟨rfl,trivial⟩ rfl rfl rfl)
     ·refine aA rfl hc_20 (av (aa (ae (vI s_7) wz rfl (ae (vI (w64 (s_7 + 1))) wz rfl (ae (vI (w64 (s_7 + 1))) wz rfl (ai ?_))))))
      obtain rfl:=ah hc_8
      exact aR (k_2,(w64 (s_7 + 1))) hL_9 (Nat.lt_succ_self _) rfl (aH rfl)
   ·refine aA rfl hc_12 (aS ?_)
    obtain rfl:=ah hc_8
    obtain rfl:=ah hL_9
    exact aP (s_7) rfl rfl (aH rfl)
 ·rintro s_7 ho_ sl_ H_ hp_ hq_
  subst ho_
  refine aK _ hp_ hq_ (af ?_)
  obtain ⟨v_21,h_22,hF⟩:=bind_some hF
  refine aG (β:=Unit) (fun _=>([(2,(vB v_21))]:List (Nat×V))) (fun _=>([]:Hp)) (fun _=>True) ?_ ?_
  ·refine aa (ae (vS s_1) wz rfl ?_)
   obtain ⟨r_23,hr_24,h_22⟩:=bind_some h_22
   refine aC (qx hr_24) rfl hb208 rfl rfl rfl rfl wz ?_
   rcases ak h_22 with⟨hc_25,h_22⟩ | ⟨hc_25,h_22⟩
   ·refine aD rfl hc_25 wz (ae (vS s_1) wa rfl ?_)
    obtain ⟨r_26,hr_27,h_22⟩:=bind_some h_22
    refine aC (BB hr_27) rfl hb211 rfl rfl rfl rfl wa (ae (vS s_1) wa rfl (ae (vB (sEq r_26 s_1)) wa rfl (ae (vB (sEq r_26 s_1)) wz rfl ?_)))
    rcases ak h_22 with⟨hc_28,h_22⟩ | ⟨hc_28,h_22⟩
    ·refine aD rfl hc_28 wz (ae (vS s_1) wa rfl ?_)
     obtain ⟨r_29,hr_30,h_22⟩:=bind_some h_22
     refine aC (xm hr_30) rfl hb212 rfl rfl rfl rfl wa (ae (vB (!r_29)) wa rfl (ae (vB (!r_29)) wz rfl (ae (vB (!r_29)) wz rfl (ai ?_))))
     obtain rfl:=ah h_22
     exact cu
    ·refine aD rfl hc_28 wz (aj wa (aj wa (aj wa (ae (vB false) wz rfl (ae (vB false) wz rfl (ai ?_))))))
     obtain rfl:=ah h_22
     exact cu
   ·refine aD rfl hc_25 wz (aj wa (aj wa (aj wa (aj wa (ae (vB false) wz rfl (ae (vB false) wz rfl (aj wa (aj wa (aj wa (ae (vB false) wz rfl (ae (vB false) wz rfl (ai ?_))))))))))))
    obtain rfl:=ah h_22
    exact cu
  ·rintro ⟨⟩ _ sl_ H_ hp_ hq_
   refine aK _ hp_ hq_ ?_
   obtain rfl:=ah hF
   exact ay (aM (.inr rfl) [(vB v_21)] ⟨rfl,trivial⟩ rfl rfl rfl)
theorem w9 {a_1:Alert} {r:Int} (hF:jY a_1=some r) :
  FnM Tryz.prog 205 [(.d (.agg (Alert.enc a_1)))] [] (vI r) []:=by
 refine FnM.of_wH ⟨Tryz.prog,92,[],[]⟩ rfl Tryz.func205 rfl rfl (Nat.le_of_ble_eq_true rfl) (by kernel_rfl) ?_
 unfold jY at hF
 refine af (aa (dJ 0 (.inl rfl) [(vS a_1.Id),(vS a_1.Sender),(vI a_1.Kind),(vL eS a_1.Refs),(vI a_1.At),(vI a_1.Until),(vI a_1.Weight),(vL Rect.enc a_1.Areas),(vS a_1.Text)] rfl rfl wz (fun n_2=>ae (vI 0) wz rfl (ai (af (af ?_))))))
 obtain ⟨v_3,h_4,hF⟩:=bind_some hF
 refine aG (β:=Unit) (fun _=>([(1,(.ref n_2 0 0)),(17,(vB v_3))]:List (Nat×V))) (fun _=>([(n_2,some (.cells 9 [(vS a_1.Id),(vS a_1.Sender),(vI a_1.Kind),(vL eS a_1.Refs),(vI a_1.At),(vI a_1.Until),(vI a_1.Weight),(vL Rect.enc a_1.Areas),(vS a_1.Text)]))]:Hp)) (fun _=>True) ?_ ?_
 ·refine aa (ax wM rfl 0 rfl wz (au 0 0 il ft sz9 ag9 rfl rfl (vS a_1.Id) rfl wz ?_))
  obtain ⟨r_5,hr_6,h_4⟩:=bind_some h_4
  refine aC (dN hr_6) rfl qM rfl rfl rfl rfl wz (ae (vB (!r_5)) wz rfl ?_)
  rcases ak h_4 with⟨hc_7,h_4⟩ | ⟨hc_7,h_4⟩
  ·refine aD rfl hc_7 wz (aj wa (aj wa (aj wa (aj wa (ae (vB true) wz rfl (ai ?_))))))
   obtain rfl:=ah h_4
   exact cu
  ·refine aD rfl hc_7 wz (ax pl100_1 rfl 1 rfl wa (au 0 0 il ft sz9 ag9 rfl rfl (vS a_1.Sender) rfl wa ?_))
   obtain ⟨r_8,hr_9,h_4⟩:=bind_some h_4
   refine aC (dN hr_9) rfl qM rfl rfl rfl rfl wa (ae (vB (!r_8)) wa rfl (ae (vB (!r_8)) wz rfl (ai ?_)))
   obtain rfl:=ah h_4
   exact cu
 ·rintro ⟨⟩ _ sl_ H_ hp_ hq_
  refine aK _ hp_ hq_ ?_
  rcases ak hF with⟨hc_10,hF⟩ | ⟨hc_10,hF⟩
  ·refine aB rfl hc_10 (af (aa (ae (vI 5) wz rfl (ai ?_))))
   obtain rfl:=ah hF
   exact ay (aM (.inr rfl) [(vI 5)] ⟨rfl,trivial⟩ rfl rfl rfl)
  ·refine aA rfl hc_10 (av (af (af (aa (ax FI rfl 2 rfl wz (au 0 0 il ft sz3 ag3 rfl rfl (vI a_1.Kind) rfl wz ?_))))))
   obtain ⟨r_11,hr_12,hF⟩:=bind_some hF
   refine aC (bf hr_12) rfl pJ rfl rfl rfl rfl wz (ai ?_)
   rcases ak hF with⟨hc_13,hF⟩ | ⟨hc_13,hF⟩
   ·refine aB rfl hc_13 (af (aa (ae (vI 4) wz rfl (ai ?_))))
    obtain rfl:=ah hF
    exact ay (aM (.inr rfl) [(vI 4)] ⟨rfl,trivial⟩ rfl rfl rfl)
   ·refine aA rfl hc_13 (av (af (af (aa (au 0 0 il ft uV yN rfl rfl (.d (.agg (Alert.enc a_1))) rfl wz ?_)))))
    obtain ⟨r_14,hr_15,hF⟩:=bind_some hF
    refine aC (xQ hr_15) rfl hb268 rfl rfl rfl rfl wz (ae (vI r_14) wz rfl (ai (af (aa (ae (vI r_14) wz rfl (ae (vB (r_14 != 0)) wz rfl (ai ?_)))))))
    rcases ak hF with⟨hc_16,hF⟩ | ⟨hc_16,hF⟩
    ·refine aB rfl hc_16 (af (aa (ae (vI r_14) wz rfl (ae (vI r_14) wz rfl (ai ?_)))))
     obtain rfl:=ah hF
     exact ay (aM (.inr rfl) [(vI r_14)] ⟨rfl,trivial⟩ rfl rfl rfl)
    ·refine aA rfl hc_16 (av (af (af ?_)))
     obtain ⟨v_17,h_18,hF⟩:=bind_some hF
     refine aG (β:=Unit) (fun _=>([(1,(.ref n_2 0 0)),(45,(vB v_17))]:List (Nat×V))) (fun _=>([(n_2,some (.cells 9 [(vS a_1.Id),(vS a_1.Sender),(vI a_1.Kind),(vL eS a_1.Refs),(vI a_1.At),(vI a_1.Until),(vI a_1.Weight),(vL Rect.enc a_1.Areas),(vS a_1.Text)]))]:Hp)) (fun _=>True) ?_ ?_
     ·refine aa (ax y8 rfl 4 rfl wz (au 0 0 il ft sz3 ag3 rfl rfl (vI a_1.At) rfl wz ?_))
      obtain ⟨r_19,hr_20,h_18⟩:=bind_some h_18
      refine aC (iq hr_20) rfl CX rfl rfl rfl rfl wz (ae (vB (!r_19)) wz rfl ?_)
      rcases ak h_18 with⟨hc_21,h_18⟩ | ⟨hc_21,h_18⟩
      ·refine aD rfl hc_21 wz (aj wa (aj wa (aj wa (aj wa (aj wa (aj wa (aj wa (aj wa (aj wa (ae (vB true) wz rfl (ae (vB true) wz rfl (aj wa (aj wa (aj wa (ae (vB true) wz rfl (ai ?_))))))))))))))))
       obtain rfl:=ah h_18
       exact cu
      ·refine aD rfl hc_21 wz (ax pl100_5 rfl 5 rfl wa (au 0 0 il ft sz3 ag3 rfl rfl (vI a_1.Until) rfl wa (ax y8 rfl 4 rfl wa (au 0 0 il ft sz3 ag3 rfl rfl (vI a_1.At) rfl wa (ae (vI (w64 (a_1.At + 1))) wa rfl (ax y8 rfl 4 rfl wa (au 0 0 il ft sz3 ag3 rfl rfl (vI a_1.At) rfl wa (ae (vI (w64 (a_1.At + 2592000000))) wa rfl ?_))))))))
       obtain ⟨r_22,hr_23,h_18⟩:=bind_some h_18
       refine aC (bf hr_23) rfl pJ rfl rfl rfl rfl wa (ae (vB r_22) wz rfl ?_)
       rcases ak h_18 with⟨hc_24,h_18⟩ | ⟨hc_24,h_18⟩
       ·refine aD rfl hc_24 wz (aj wa (aj wa (aj wa (ae (vB true) wz rfl (ai ?_)))))
        obtain rfl:=ah h_18
        exact cu
       ·refine aD rfl hc_24 wz (ax pl100_6 rfl 6 rfl wa (au 0 0 il ft sz3 ag3 rfl rfl (vI a_1.Weight) rfl wa ?_))
        obtain ⟨r_25,hr_26,h_18⟩:=bind_some h_18
        refine aC (bf hr_26) rfl pJ rfl rfl rfl rfl wa (ae (vB r_25) wz rfl (ai ?_))
        obtain rfl:=ah h_18
        exact cu
     ·rintro ⟨⟩ _ sl_ H_ hp_ hq_
      refine aK _ hp_ hq_ ?_
      rcases ak hF with⟨hc_27,hF⟩ | ⟨hc_27,hF⟩
      ·refine aB rfl hc_27 (af (aa (ae (vI 1) wz rfl (ai ?_))))
       obtain rfl:=ah hF
       exact ay (aM (.inr rfl) [(vI 1)] ⟨rfl,trivial⟩ rfl rfl rfl)
      ·refine aA rfl hc_27 (av (af (af (aa (ax BJ rfl 7 rfl wz (au 0 0 il ft Mf LQ rfl rfl (vL Rect.enc a_1.Areas) rfl wz (bP zw rfl wz (ae (vB (decide ((a_1.Areas.length:Int) > 20))) wz rfl (ai ?_)))))))))
       rcases ak hF with⟨hc_28,hF⟩ | ⟨hc_28,hF⟩
       ·refine aB rfl hc_28 (af (aa (ae (vI 2) wz rfl (ai ?_))))
        obtain rfl:=ah hF
        exact ay (aM (.inr rfl) [(vI 2)] ⟨rfl,trivial⟩ rfl rfl rfl)
       ·refine aA rfl hc_28 (av (af (af (aa (ax BJ rfl 7 rfl wz (au 0 0 il ft Mf LQ rfl rfl (vL Rect.enc a_1.Areas) rfl wz (bP zw rfl wz (ae (vI 0) wz rfl (ai ?_)))))))))
        obtain ⟨o_37,hj_38,hF⟩:=bind_some hF
        obtain ⟨hn_33,hj_38⟩:=aQ hj_38
        refine aG (β:=(Unit)) (fun (s_34:Unit)=>([(1,(.ref n_2 0 0))]:List (Nat×V))) (fun (s_34:Unit)=>([(n_2,some (.cells 9 [(vS a_1.Id),(vS a_1.Sender),(vI a_1.Kind),(vL eS a_1.Refs),(vI a_1.At),(vI a_1.Until),(vI a_1.Weight),(vL Rect.enc a_1.Areas),(vS a_1.Text)]))]:Hp)) (fun p=>o_37 = .go p) ?_ ?_
        ·refine aF (aW (β:=Nat×(List Rect)×(Unit)) (fun p=>(fun (k_29:Nat) (l_30:List Rect) (s_34:Unit)=>([(1,(.ref n_2 0 0)),(51,(vL Rect.enc a_1.Areas)),(52,(vI (a_1.Areas.length:Int))),(53,(vI (k_29:Int)))]:List (Nat×V))) p.1 p.2.1 p.2.2) (fun p=>(fun (k_29:Nat) (l_30:List Rect) (s_34:Unit)=>([(n_2,some (.cells 9 [(vS a_1.Id),(vS a_1.Sender),(vI a_1.Kind),(vL eS a_1.Refs),(vI a_1.At),(vI a_1.Until),(vI a_1.Weight),(vL Rect.enc a_1.Areas),(vS a_1.Text)]))]:Hp)) p.1 p.2.1 p.2.2) (fun p=>forR (fun k x s=>jH k x s) p.2.1 p.1 p.2.2=some o_37∧(a_1.Areas).drop p.1=p.2.1) (fun p=>p.2.1.length) (0,a_1.Areas,()) ⟨hj_38,rfl⟩ rfl (aH rfl) ?_)
         rintro ⟨k_29,l_30,s_34⟩ ⟨hL_36,hD_32⟩
         dsimp only at hL_36 hD_32
         cases l_30 with
         | nil =>
          obtain rfl:=ah hL_36
          refine af (aa (ae (vB (decide ((k_29:Int) < (a_1.Areas.length:Int)))) wz rfl (ai ?_)))
          refine af (aA rfl (drop_nil hD_32) (aS ?_))
          exact aP (s_34) rfl rfl (aH rfl)
         | cons x_31 l_30 =>
          obtain ⟨c_,hc_35,hL_36⟩:=bind_some hL_36
          refine af (aa (ae (vB (decide ((k_29:Int) < (a_1.Areas.length:Int)))) wz rfl (ai ?_)))
          refine af (aB rfl (aX hD_32) (av ?_))
          unfold jH at hc_35
          refine af (aF (af (aa (dL zu rfl rfl (bC hD_32) rfl wz (bJ dx gm rfl (.d (.agg (Rect.enc x_31))) rfl wz (aY 0 (.inl rfl) z45 rfl wz (fun n_39=>bL 0 il ft 1 dx rfl rfl [(vI x_31.X),(vI x_31.Y),(vI x_31.W),(vI x_31.H)] rfl wz (ai (af (aa (au 0 1 il ft dx gm rfl rfl (.d (.agg (Rect.enc x_31))) rfl wz ?_)))))))))))
          obtain ⟨r_40,hr_41,hc_35⟩:=bind_some hc_35
          refine aC (fT hr_41) rfl LM rfl rfl rfl rfl wz (ae (vI r_40) wz rfl (ai (af (aa (ae (vI r_40) wz rfl (ae (vB (r_40 != 0)) wz rfl (ai ?_)))))))
          rcases ak hc_35 with⟨hc_42,hc_35⟩ | ⟨hc_42,hc_35⟩
          ·refine aB rfl hc_42 (af (aa (ae (vI r_40) wz rfl (ae (vI r_40) wz rfl (ai ?_)))))
           obtain rfl:=ah hc_35
           obtain rfl:=ah hL_36
           obtain rfl:=ah hF
           exact ay (aM (.inr rfl) [(vI r_40)] ⟨rfl,trivial⟩ rfl rfl rfl)
          ·refine aA rfl hc_42 (av (aa (dQ (bu hD_32 hn_33) wz rfl (ae (vI ((k_29 + 1:Nat):Int)) wz rfl (ai ?_)))))
           obtain rfl:=ah hc_35
           exact aR (k_29 + 1,l_30,()) ⟨hL_36,aN hD_32⟩ (Nat.lt_succ_self _) rfl (aH rfl)
        ·rintro s_34 ho_ sl_ H_ hp_ hq_
         subst ho_
         refine aK _ hp_ hq_ (af (aa (ax FI rfl 2 rfl wz (au 0 0 il ft sz3 ag3 rfl rfl (vI a_1.Kind) rfl wz (ae (vB (a_1.Kind == 3)) wz rfl (ae (vB (a_1.Kind == 3)) wz rfl (ai (af (aF (af (aa (ae (vB (a_1.Kind == 3)) wz rfl (ax BJ rfl 7 rfl wz (au 0 0 il ft Mf LQ rfl rfl (vL Rect.enc a_1.Areas) rfl wz (bP zw rfl wz (ae (vB ((a_1.Areas.length:Int) == 0)) wz rfl (M4 un4 rfl rfl wz (ae (vB (!((a_1.Kind == 3) == ((a_1.Areas.length:Int) == 0)))) wz rfl (ai ?_)))))))))))))))))))
         rcases ak hF with⟨hc_43,hF⟩ | ⟨hc_43,hF⟩
         ·refine aB rfl hc_43 (af (aa (ae (vI 3) wz rfl (ai ?_))))
          obtain rfl:=ah hF
          exact ay (aM (.inr rfl) [(vI 3)] ⟨rfl,trivial⟩ rfl rfl rfl)
         ·refine aA rfl hc_43 (af (aa (ax F5 rfl 8 rfl wz (au 0 0 il ft sz9 ag9 rfl rfl (vS a_1.Text) rfl wz (lu un9 rfl wz (ae (vB (decide ((a_1.Text.size:Int) > 500))) wz rfl (ae (vB (decide ((a_1.Text.size:Int) > 500))) wz rfl (ai ?_))))))))
          rcases ak hF with⟨hc_44,hF⟩ | ⟨hc_44,hF⟩
          ·refine aB rfl hc_44 (af (aa (ae (vI 2) wz rfl (ai ?_))))
           obtain rfl:=ah hF
           exact ay (aM (.inr rfl) [(vI 2)] ⟨rfl,trivial⟩ rfl rfl rfl)
          ·refine aA rfl hc_44 (af ?_)
           obtain ⟨v_45,h_46,hF⟩:=bind_some hF
           refine aG (β:=Unit) (fun _=>([(78,(vB v_45))]:List (Nat×V))) (fun _=>([(n_2,some (.cells 9 [(vS a_1.Id),(vS a_1.Sender),(vI a_1.Kind),(vL eS a_1.Refs),(vI a_1.At),(vI a_1.Until),(vI a_1.Weight),(vL Rect.enc a_1.Areas),(vS a_1.Text)]))]:Hp)) (fun _=>True) ?_ ?_
           ·refine aa (ax F5 rfl 8 rfl wz (au 0 0 il ft sz9 ag9 rfl rfl (vS a_1.Text) rfl wz ?_))
            obtain ⟨r_47,hr_48,h_46⟩:=bind_some h_46
            refine aC (Ee hr_48) rfl hb269 rfl rfl rfl rfl wz (ae (vB (!r_47)) wz rfl ?_)
            rcases ak h_46 with⟨hc_49,h_46⟩ | ⟨hc_49,h_46⟩
            ·refine aD rfl hc_49 wz (aj wa (aj wa (aj wa (aj wa (aj (wn rfl rfl) (aj (wn rfl rfl) (aj wa (ae (vB true) wz rfl (ae (vB true) wz rfl (ai ?_))))))))))
             obtain rfl:=ah h_46
             exact cu
            ·refine aD rfl hc_49 wz (ax F5 rfl 8 rfl wa (au 0 0 il ft sz9 ag9 rfl rfl (vS a_1.Text) rfl wa (ae (vB (sEq a_1.Text (⟨#[]⟩:ByteArray))) wa rfl ?_)))
             rcases ak h_46 with⟨hc_50,h_46⟩ | ⟨hc_50,h_46⟩
             ·refine aD rfl hc_50 wa (ae (vB (a_1.Kind == 3)) wa rfl (ae (vB (!(a_1.Kind == 3))) wa rfl (ae (vB (!(a_1.Kind == 3))) wa rfl (ae (vB (!(a_1.Kind == 3))) wz rfl (ae (vB (!(a_1.Kind == 3))) wz rfl (ai ?_))))))
              obtain rfl:=ah h_46
              exact cu
             ·refine aD rfl hc_50 wa (aj wa (aj wa (ae (vB false) wa rfl (ae (vB false) wz rfl (ae (vB false) wz rfl (ai ?_))))))
              obtain rfl:=ah h_46
              exact cu
           ·rintro ⟨⟩ _ sl_ H_ hp_ hq_
            refine aK _ hp_ hq_ ?_
            rcases ak hF with⟨hc_51,hF⟩ | ⟨hc_51,hF⟩
            ·refine aB rfl hc_51 (af (aa (ae (vI 3) wz rfl (ai ?_))))
             obtain rfl:=ah hF
             exact ay (aM (.inr rfl) [(vI 3)] ⟨rfl,trivial⟩ rfl rfl rfl)
            ·refine aA rfl hc_51 (av (af (aa (ae (vI 0) wz rfl (ai ?_)))))
             obtain rfl:=ah hF
             exact ay (aM (.inr rfl) [(vI 0)] ⟨rfl,trivial⟩ rfl rfl rfl)
theorem zH {a_1:Alert} {b_2:Alert} {r:Int} (hF:oM a_1 b_2=some r) :
  FnM Tryz.prog 206 [(.d (.agg (Alert.enc a_1))),(.d (.agg (Alert.enc b_2)))] [] (vI r) []:=by
 refine FnM.of_wH ⟨Tryz.prog,17,[],[]⟩ rfl Tryz.func206 rfl rfl (Nat.le_of_ble_eq_true rfl) (by kernel_rfl) ?_
 unfold oM at hF
 refine af (aa (dJ 0 (.inl rfl) [(vS a_1.Id),(vS a_1.Sender),(vI a_1.Kind),(vL eS a_1.Refs),(vI a_1.At),(vI a_1.Until),(vI a_1.Weight),(vL Rect.enc a_1.Areas),(vS a_1.Text)] rfl rfl wz (fun n_3=>dJ 0 (.inl rfl) [(vS b_2.Id),(vS b_2.Sender),(vI b_2.Kind),(vL eS b_2.Refs),(vI b_2.At),(vI b_2.Until),(vI b_2.Weight),(vL Rect.enc b_2.Areas),(vS b_2.Text)] rfl rfl wz (fun n_4=>ae (vI 0) wz rfl (ai (af (bB (ax y8 rfl 4 rfl wz (au 1 0 (.inr (by kernel_rfl)) (fun _ _ ag=>trivial) sz3 ag3 rfl rfl (vI a_1.At) rfl wz (ax y8 rfl 4 rfl wz (au 3 1 (.inr (by kernel_rfl)) (fun _ _ ag=>⟨.inl ⟨rfl,rfl⟩,trivial⟩) sz3 ag3 rfl rfl (vI b_2.At) rfl wz ?_)))))))))))
 obtain ⟨r_5,hr_6,hF⟩:=bind_some hF
 refine aC (qW hr_6) rfl hb114 rfl rfl rfl rfl wz (ax wM rfl 0 rfl wz (au 6 0 (.inr (by kernel_rfl)) (fun _ _ ag=>⟨.inl ⟨rfl,rfl⟩,⟨.inl ⟨rfl,rfl⟩,trivial⟩⟩) sz9 ag9 rfl rfl (vS a_1.Id) rfl wz (ax wM rfl 0 rfl wz (au 8 1 (.inr (by kernel_rfl)) (fun _ _ ag=>⟨.inl ⟨rfl,rfl⟩,⟨.inl ⟨rfl,rfl⟩,⟨.inl ⟨rfl,rfl⟩,trivial⟩⟩⟩) sz9 ag9 rfl rfl (vS b_2.Id) rfl wz ?_))))
 obtain ⟨r_7,hr_8,hF⟩:=bind_some hF
 refine aC (qR hr_8) rfl hb108 rfl rfl rfl rfl wz (fH (([r_5,r_7]:List Int).map eI) oo Ce rfl rfl rfl rfl rfl wz ?_)
 obtain ⟨r_9,hr_10,hF⟩:=bind_some hF
 refine aC (xA hr_10) rfl hb107 rfl rfl rfl rfl wz (ae (vI r_9) wz rfl (ai ?_))
 obtain rfl:=ah hF
 exact ay (aM (.inr rfl) [(vI r_9)] ⟨rfl,trivial⟩ rfl rfl rfl)
theorem vM {l_1:(List Alert)} {r:Int} (hF:jk l_1=some r) :
  FnM Tryz.prog 161 [(vL Alert.enc l_1)] [] (vI r) []:=by
 refine FnM.of_wH ⟨Tryz.prog,52,[],[]⟩ rfl Tryz.func161 rfl rfl (Nat.le_of_ble_eq_true rfl) (by kernel_rfl) ?_
 unfold jk at hF
 refine af (aa (ae (vI 0) wz rfl (ai (af (af (aa (ae (vL Alert.enc l_1) wz rfl (bP un56 rfl wz (ae (vB (decide ((l_1.length:Int) > 300))) wz rfl (ai ?_))))))))))
 rcases ak hF with⟨hc_2,hF⟩ | ⟨hc_2,hF⟩
 ·refine aB rfl hc_2 (af (aa (ae (vI 2) wz rfl (ai ?_))))
  obtain rfl:=ah hF
  exact ay (aM (.inr rfl) [(vI 2)] ⟨rfl,trivial⟩ rfl rfl rfl)
 ·refine aA rfl hc_2 (av (af (af (aa (ae (vL Alert.enc l_1) wz rfl (bP un56 rfl wz (ae (vI 0) wz rfl (ai ?_))))))))
  obtain ⟨o_11,hj_12,hF⟩:=bind_some hF
  obtain ⟨hn_7,hj_12⟩:=aQ hj_12
  refine aG (β:=(Unit)) (fun (s_8:Unit)=>([(0,(vL Alert.enc l_1))]:List (Nat×V))) (fun (s_8:Unit)=>([]:Hp)) (fun p=>o_11 = .go p) ?_ ?_
  ·refine aF (aW (β:=Nat×(List Alert)×(Unit)) (fun p=>(fun (k_3:Nat) (l_4:List Alert) (s_8:Unit)=>([(0,(vL Alert.enc l_1)),(12,(vL Alert.enc l_1)),(13,(vI (l_1.length:Int))),(14,(vI (k_3:Int)))]:List (Nat×V))) p.1 p.2.1 p.2.2) (fun p=>(fun (k_3:Nat) (l_4:List Alert) (s_8:Unit)=>([]:Hp)) p.1 p.2.1 p.2.2) (fun p=>forR (fun k x s=>gX l_1 k x s) p.2.1 p.1 p.2.2=some o_11∧(l_1).drop p.1=p.2.1) (fun p=>p.2.1.length) (0,l_1,()) ⟨hj_12,rfl⟩ rfl (aH rfl) ?_)
   rintro ⟨k_3,l_4,s_8⟩ ⟨hL_10,hD_6⟩
   dsimp only at hL_10 hD_6
   cases l_4 with
   | nil =>
    obtain rfl:=ah hL_10
    refine af (aa (ae (vB (decide ((k_3:Int) < (l_1.length:Int)))) wz rfl (ai ?_)))
    refine af (aA rfl (drop_nil hD_6) (aS ?_))
    exact aP (s_8) rfl rfl (aH rfl)
   | cons x_5 l_4 =>
    obtain ⟨c_,hc_9,hL_10⟩:=bind_some hL_10
    refine af (aa (ae (vB (decide ((k_3:Int) < (l_1.length:Int)))) wz rfl (ai ?_)))
    refine af (aB rfl (aX hD_6) (av ?_))
    unfold gX at hc_9
    refine af (aF (af (aa (ae (vI (k_3:Int)) wz rfl (dL es56 rfl rfl (bC hD_6) rfl wz (bJ uV yN rfl (.d (.agg (Alert.enc x_5))) rfl wz (aY 0 (.inl rfl) z100 rfl wz (fun n_13=>ae (vI (k_3:Int)) wz rfl (bL 0 il ft 0 uV rfl rfl [(vS x_5.Id),(vS x_5.Sender),(vI x_5.Kind),(vL eS x_5.Refs),(vI x_5.At),(vI x_5.Until),(vI x_5.Weight),(vL Rect.enc x_5.Areas),(vS x_5.Text)] rfl wz (ai (af (af (aa (au 0 0 il ft uV yN rfl rfl (.d (.agg (Alert.enc x_5))) rfl wz ?_))))))))))))))
    obtain ⟨r_14,hr_15,hc_9⟩:=bind_some hc_9
    refine aC (w9 hr_15) rfl hb205 rfl rfl rfl rfl wz (ae (vI r_14) wz rfl (ai (af (aa (ae (vI r_14) wz rfl (ae (vB (r_14 != 0)) wz rfl (ai ?_)))))))
    rcases ak hc_9 with⟨hc_16,hc_9⟩ | ⟨hc_16,hc_9⟩
    ·refine aB rfl hc_16 (af (aa (ae (vI r_14) wz rfl (ae (vI r_14) wz rfl (ai ?_)))))
     obtain rfl:=ah hc_9
     obtain rfl:=ah hL_10
     obtain rfl:=ah hF
     exact ay (aM (.inr rfl) [(vI r_14)] ⟨rfl,trivial⟩ rfl rfl rfl)
    ·refine aA rfl hc_16 (av (af ?_))
     obtain ⟨v_17,h_18,hc_9⟩:=bind_some hc_9
     refine aG (β:=Unit) (fun _=>([(0,(vL Alert.enc l_1)),(12,(vL Alert.enc l_1)),(13,(vI (l_1.length:Int))),(14,(vI (k_3:Int))),(35,(vB v_17))]:List (Nat×V))) (fun _=>([(n_13,some (.cells 9 [(vS x_5.Id),(vS x_5.Sender),(vI x_5.Kind),(vL eS x_5.Refs),(vI x_5.At),(vI x_5.Until),(vI x_5.Weight),(vL Rect.enc x_5.Areas),(vS x_5.Text)]))]:Hp)) (fun _=>True) ?_ ?_
     ·refine bB (ae (vI (k_3:Int)) wz rfl (ae (vB (decide ((k_3:Int) > 0))) wz rfl ?_))
      rcases ak h_18 with⟨hc_19,h_18⟩ | ⟨hc_19,h_18⟩
      ·refine aD rfl hc_19 wz (ae (vL Alert.enc l_1) wa rfl (ae (vI (k_3:Int)) wa rfl (ae (vI (w64 ((k_3:Int) - 1))) wa rfl ?_)))
       obtain ⟨y_20,hy_21,h_18⟩:=bind_some h_18
       refine dL es56 rfl rfl hy_21 rfl wa (bJ uV yN rfl (.d (.agg (Alert.enc y_20))) rfl wa (au 8 0 (.inr (by kernel_rfl)) (fun _ _ ag=>trivial) uV yN rfl rfl (.d (.agg (Alert.enc x_5))) rfl wa ?_))
       obtain ⟨r_22,hr_23,h_18⟩:=bind_some h_18
       refine aC (zH hr_23) rfl hb206 rfl rfl rfl rfl wa (ae (vB (decide (r_22≥0))) wa rfl (ae (vB (decide (r_22≥0))) wz rfl (ai ?_)))
       obtain rfl:=ah h_18
       exact cu
      ·refine aD rfl hc_19 wz (aj wa (aj wa (aj wa (aj wa (aj wa (aj wa (aj wa (aj wa (ae (vB false) wz rfl (ai ?_))))))))))
       obtain rfl:=ah h_18
       exact cu
     ·rintro ⟨⟩ _ sl_ H_ hp_ hq_
      refine aK _ hp_ hq_ ?_
      rcases ak hc_9 with⟨hc_24,hc_9⟩ | ⟨hc_24,hc_9⟩
      ·refine aB rfl hc_24 (af (aa (ae (vI 7) wz rfl (ai ?_))))
       obtain rfl:=ah hc_9
       obtain rfl:=ah hL_10
       obtain rfl:=ah hF
       exact ay (aM (.inr rfl) [(vI 7)] ⟨rfl,trivial⟩ rfl rfl rfl)
      ·refine aA rfl hc_24 (av (aa (dQ (bu hD_6 hn_7) wz rfl (ae (vI ((k_3 + 1:Nat):Int)) wz rfl (ai ?_)))))
       obtain rfl:=ah hc_9
       exact aR (k_3 + 1,l_4,()) ⟨hL_10,aN hD_6⟩ (Nat.lt_succ_self _) rfl (aH rfl)
  ·rintro s_8 ho_ sl_ H_ hp_ hq_
   subst ho_
   refine aK _ hp_ hq_ (af (aa (h_mkmap 0 (.inl rfl) wz (fun n_25=>h_reH (b':=some (bM D.str D.bool ([]:List (ByteArray×Bool)))) 0 rfl rfl (ae (.map n_25) wz rfl (ai (af (af (aa (ae (vL Alert.enc l_1) wz rfl (bP un56 rfl wz (ae (vI 0) wz rfl (ai ?_)))))))))))))
   obtain ⟨o_34,hj_35,hF⟩:=bind_some hF
   obtain ⟨hn_30,hj_35⟩:=aQ hj_35
   refine aG (β:=((List (ByteArray×Bool)))) (fun (s_31:(List (ByteArray×Bool)))=>([]:List (Nat×V))) (fun (s_31:(List (ByteArray×Bool)))=>([(n_25,some (bM D.str D.bool s_31))]:Hp)) (fun p=>o_34 = .go p) ?_ ?_
   ·refine aF (aW (β:=Nat×(List Alert)×((List (ByteArray×Bool)))) (fun p=>(fun (k_26:Nat) (l_27:List Alert) (s_31:(List (ByteArray×Bool)))=>([(6,(.map n_25)),(38,(vL Alert.enc l_1)),(39,(vI (l_1.length:Int))),(40,(vI (k_26:Int)))]:List (Nat×V))) p.1 p.2.1 p.2.2) (fun p=>(fun (k_26:Nat) (l_27:List Alert) (s_31:(List (ByteArray×Bool)))=>([(n_25,some (bM D.str D.bool s_31))]:Hp)) p.1 p.2.1 p.2.2) (fun p=>forR (fun k x s=>je k x s) p.2.1 p.1 p.2.2=some o_34∧(l_1).drop p.1=p.2.1) (fun p=>p.2.1.length) (0,l_1,([]:List (ByteArray×Bool))) ⟨hj_35,rfl⟩ rfl (aH rfl) ?_)
    rintro ⟨k_26,l_27,s_31⟩ ⟨hL_33,hD_29⟩
    dsimp only at hL_33 hD_29
    cases l_27 with
    | nil =>
     obtain rfl:=ah hL_33
     refine af (aa (ae (vB (decide ((k_26:Int) < (l_1.length:Int)))) wz rfl (ai ?_)))
     refine af (aA rfl (drop_nil hD_29) (aS ?_))
     exact aP (s_31) rfl rfl (aH rfl)
    | cons x_28 l_27 =>
     obtain ⟨c_,hc_32,hL_33⟩:=bind_some hL_33
     refine af (aa (ae (vB (decide ((k_26:Int) < (l_1.length:Int)))) wz rfl (ai ?_)))
     refine af (aB rfl (aX hD_29) (av ?_))
     unfold je at hc_32
     refine af (aF (af (aa (dL es56 rfl rfl (bC hD_29) rfl wz (bJ uV yN rfl (.d (.agg (Alert.enc x_28))) rfl wz (aY 0 (.inl rfl) z100 rfl wz (fun n_36=>bL 0 il ft 1 uV rfl rfl [(vS x_28.Id),(vS x_28.Sender),(vI x_28.Kind),(vL eS x_28.Refs),(vI x_28.At),(vI x_28.Until),(vI x_28.Weight),(vL Rect.enc x_28.Areas),(vS x_28.Text)] rfl wz (ai (af (af (aa (ae (.map n_25) wz rfl (ax wM rfl 0 rfl wz (au 0 1 il ft sz9 ag9 rfl rfl (vS x_28.Id) rfl wz (NZ (eq:=eqS) (kD:=D.str) (vD:=D.bool) (es:=s_31) (k:=x_28.Id) (z:=false) 0 0 il ft (fun _ _=>rfl) mt168 (by kernel_rfl) (by kernel_rfl) rfl rfl rfl (vB ((Jj eqS s_31 x_28.Id).getD false)) rfl wz (ai ?_))))))))))))))))
     rcases ak hc_32 with⟨hc_37,hc_32⟩ | ⟨hc_37,hc_32⟩
     ·refine aB rfl hc_37 (af (aa (ae (vI 6) wz rfl (ai ?_))))
      obtain rfl:=ah hc_32
      obtain rfl:=ah hL_33
      obtain rfl:=ah hF
      exact ay (aM (.inr rfl) [(vI 6)] ⟨rfl,trivial⟩ rfl rfl rfl)
     ·refine aA rfl hc_37 (av (aa (ae (.map n_25) wz rfl (ax wM rfl 0 rfl wz (au 0 1 il ft sz9 ag9 rfl rfl (vS x_28.Id) rfl wz (Mj (eq:=eqS) (kD:=D.str) (vD:=D.bool) (es:=s_31) (k:=x_28.Id) (v:=true) 0 0 il ft (fun _ _=>rfl) mt168 (by kernel_rfl) rfl rfl rfl rfl wz (ai (aa (dQ (bu hD_29 hn_30) wz rfl (ae (vI ((k_26 + 1:Nat):Int)) wz rfl (ai ?_)))))))))))
      obtain rfl:=ah hc_32
      exact aR (k_26 + 1,l_27,(MM eqS s_31 x_28.Id true)) ⟨hL_33,aN hD_29⟩ (Nat.lt_succ_self _) rfl (aH rfl)
   ·rintro s_31 ho_ sl_ H_ hp_ hq_
    subst ho_
    refine aK _ hp_ hq_ (af (aa (ae (vI 0) wz rfl (ai ?_))))
    obtain rfl:=ah hF
    exact ay (aM (.inr rfl) [(vI 0)] ⟨rfl,trivial⟩ rfl rfl rfl)
end Go.Proofs.YtjhcehhmdmbleaaGreatDoor.Law

