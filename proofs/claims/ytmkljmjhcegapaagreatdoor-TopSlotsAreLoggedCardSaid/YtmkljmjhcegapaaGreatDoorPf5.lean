/-
 The machine computes these plain functions (written by a program of ours).
-/
import Derived.Test.YtmkljmjhcegapaaGreatDoorFacts
import Derived.Test.YtmkljmjhcegapaaGreatDoorDefs
import Derived.Test.YtmkljmjhcegapaaGreatDoorPf4
open Go Go.Eng Go.Proofs
namespace Go.Proofs.YtmkljmjhcegapaaGreatDoor.Law
set_option maxRecDepth 100000
set_option linter.unusedVariables false
set_option maxHeartbeats 1000000
theorem yf {l_1:(List Rect)} {r:Int} (hF:mh l_1=some r) :
  FnM Tryz.prog 64 [(vL Rect.enc l_1)] [] (vI r) []:=by
 refine FnM.of_wH ⟨Tryz.prog,21,[],[]⟩ rfl Tryz.func64 rfl rfl (lb_ rfl) (by kernel_rfl) ?_
 unfold mh at hF
 refine aj (aa (vI 0) (af (au (aj (aa (vL Rect.enc l_1) (dx JG rfl wz (aa (vB (decide ((l_1.length:Int)>2000))) (af ?_))))))))
 rcases ak hF with⟨hc_2,hF⟩|⟨hc_2,hF⟩
 ·refine aA rfl hc_2 (aj (aa (vI 2) (af ?_)))
  obtain rfl:=ae hF
  exact aH (aN [(vI 2)] ⟨rfl,trivial⟩)
 ·refine ay rfl hc_2 (ax (au (aj (aa (vL Rect.enc l_1) (dx JG rfl wz (aa (vI 0) (af ?_)))))))
  obtain ⟨o_11,hj_12,hF⟩:=bind_some hF
  obtain ⟨hn_7,hj_12⟩:=bI hj_12
  refine fH (λ(s_8:Unit)=>[]) (λ(s_8:Unit)=>[]) (λ(k_3:Nat)=>(λ(s_8:Unit)=>[(9,(vL Rect.enc l_1)),(10,(vI (l_1.length:Int))),(11,(vI (k_3:Int)))])) (λk x s=>nk k x s) o_11 l_1 () hj_12 rfl (aK rfl) ?_ ?_
  ·rintro ⟨k_3,l_4,s_8⟩ ⟨hL_10,hD_6⟩
   dsimp only at hL_10 hD_6
   cases l_4 with
   | nil =>
    obtain rfl:=ae hL_10
    refine aj (aa (vB (decide ((k_3:Int)<(l_1.length:Int)))) (af ?_))
    refine au (ay rfl (drop_nil hD_6) (aX ?_))
    exact aV (s_8) rfl rfl (aK rfl)
   | cons x_5 l_4 =>
    obtain ⟨c_,hc_9,hL_10⟩:=bind_some hL_10
    refine aj (aa (vB (decide ((k_3:Int)<(l_1.length:Int)))) (af ?_))
    refine au (aA rfl (bO hD_6) (ax ?_))
    unfold nk at hc_9
    refine au (aQ (aj (dW O9 rfl rfl (bU hD_6) rfl wz (bK CF QF rfl (.d (.agg (Rect.enc x_5))) rfl wz (dC 0 (.inl rfl) z96 rfl wz (λn_13=>fA 0 il ft 0 CF rfl rfl (Rect.v x_5) rfl wz (af (aj (aB 0 0 il ft CF QF rfl rfl (.d (.agg (Rect.enc x_5))) rfl wz ?_)))))))))
    obtain ⟨r_14,hr_15,hc_9⟩:=bind_some hc_9
    refine aC (zo hr_15) rfl hb97 rfl rfl rfl rfl wz (aa (vI r_14) (af (aj (aa (vI r_14) (aa (vB (r_14 != 0)) (af ?_))))))
    rcases ak hc_9 with⟨hc_16,hc_9⟩|⟨hc_16,hc_9⟩
    ·refine aA rfl hc_16 (aj (aa (vI r_14) (aa (vI r_14) (af ?_))))
     obtain rfl:=ae hc_9
     obtain rfl:=ae hL_10
     obtain rfl:=ae hF
     exact aH (aN [(vI r_14)] ⟨rfl,trivial⟩)
    ·refine ay rfl hc_16 (ax (av (fQ (bN hD_6 hn_7) wz rfl (aa (vI ((k_3+1:Nat):Int)) (af ?_)))))
     obtain rfl:=ae hc_9
     exact aY (k_3+1,l_4,()) ⟨hL_10,aW hD_6⟩ (ls_ _) rfl (aK rfl)
  ·rintro s_8 ho_ sl_ H_ hp_ hq_
   subst ho_
   refine aO _ hp_ hq_ (aj (aa (vI 0) (af ?_)))
   obtain rfl:=ae hF
   exact aH (aN [(vI 0)] ⟨rfl,trivial⟩)
theorem ow {n_1:Int} {r:Bool} (hF:iV n_1=some r) :
  FnM Tryz.prog 140 [.nil,(vI n_1)] [] (kV r (aG 0) 4 ([]:List Rect)) (kO r 4):=by
 refine FnM.of_wH ⟨Tryz.prog,27,[],[]⟩ rfl Tryz.func140 rfl rfl (lb_ rfl) (by kernel_rfl) ?_
 unfold iV at hF
 refine aj (aa .nil (af (au (aj (aa (vI n_1) (aa (vB (decide (n_1<0))) (af ?_)))))))
 rcases ak hF with⟨hc_2,hF⟩|⟨hc_2,hF⟩
 ·refine aA rfl hc_2 (av ?_)
  cases hF
 ·refine ay rfl hc_2 (ax (au (aj (aa (vI n_1) (aa .nil (RV MP rfl wz (aa .nil (LX JG rfl wz (aa (vI (w64 (0-0))) (aa (vI (w64 (n_1-(w64 (0-0))))) (aa (vI (w64 (n_1-(w64 (0-0))))) (af (aj (aa (vI (w64 (n_1-(w64 (0-0))))) (aa (vB (decide ((w64 (n_1-(w64 (0-0))))>0))) (af ?_))))))))))))))))
  rcases ak hF with⟨hc_3,hF⟩|⟨hc_3,hF⟩
  ·refine aA rfl hc_3 (av (aa .nil (aa .nil (RV MP rfl wz (aM .nil wz (by kernel_rfl) (aa (vI (w64 (n_1-(w64 (0-0))))) ?_))))))
   obtain ⟨_,hz_5,hF⟩:=bind_some hF
   refine h_appz (enc:=Rect.enc) 0 (.inl rfl) MP (by kernel_rfl) CF z96 rfl (by decide) by96 rfl rfl hz_5 wz (λn_4=>aa .nil (LX JG rfl wz (h_cutm (m:=0) JG CF rfl rfl rfl (Nat.zero_le _) wz (aa (.vs n_4 4 0 0) (af (aj (aa (.vs n_4 4 0 0) (aa (.vs n_4 4 0 0) (af ?_)))))))))
   obtain rfl:=ae hF
   exact aH (finK (.inr rfl) 0 rfl rfl)
  ·refine ay rfl hc_3 (ax (aj (aa .nil (aa .nil (af ?_)))))
   obtain rfl:=ae hF
   exact aH (finK0 (.inr rfl) rfl)
theorem oD {slices_1:(List (List Rect))} {r:(List Rect)} (hF:fI slices_1=some r) :
  FnM Tryz.prog 98 [(vL (eL Rect.enc) slices_1)] [] (vL Rect.enc r) []:=by
 refine FnM.of_wH ⟨Tryz.prog,36,[],[]⟩ rfl Tryz.func98 rfl rfl (lb_ rfl) (by kernel_rfl) ?_
 unfold fI at hF
 refine aj (aa .nil (af (aj (aa (vI 0) (af (au (aj (aa (vL (eL Rect.enc) slices_1) (dx un209 rfl wz (aa (vI 0) (af ?_)))))))))))
 obtain ⟨o_10,hj_11,hF⟩:=bind_some hF
 obtain ⟨hn_6,hj_11⟩:=bI hj_11
 refine fH (λ(s_7:Int)=>[(0,(vL (eL Rect.enc) slices_1)),(3,(vI s_7))]) (λ(s_7:Int)=>[]) (λ(k_2:Nat)=>(λ(s_7:Int)=>[(0,(vL (eL Rect.enc) slices_1)),(3,(vI s_7)),(9,(vL (eL Rect.enc) slices_1)),(10,(vI (slices_1.length:Int))),(11,(vI (k_2:Int)))])) (λk x s=>ib k x s) o_10 slices_1 0 hj_11 rfl (aK rfl) ?_ ?_
 ·rintro ⟨k_2,l_3,s_7⟩ ⟨hL_9,hD_5⟩
  dsimp only at hL_9 hD_5
  cases l_3 with
  | nil =>
   obtain rfl:=ae hL_9
   refine aj (aa (vB (decide ((k_2:Int)<(slices_1.length:Int)))) (af ?_))
   refine au (ay rfl (drop_nil hD_5) (aX ?_))
   exact aV (s_7) rfl rfl (aK rfl)
  | cons x_4 l_3 =>
   obtain ⟨c_,hc_8,hL_9⟩:=bind_some hL_9
   refine aj (aa (vB (decide ((k_2:Int)<(slices_1.length:Int)))) (af ?_))
   refine au (aA rfl (bO hD_5) (ax ?_))
   unfold ib at hc_8
   refine au (aQ (aj (dW QI rfl rfl (bU hD_5) rfl wz (bK sz97 ag97 rfl (vL Rect.enc x_4) rfl wz (aa (vL Rect.enc x_4) (af (aj (aa (vI s_7) (aa (vL Rect.enc x_4) (dx JG rfl wz (aa (vI (w64 (s_7+(x_4.length:Int)))) (aa (vI (w64 (s_7+(x_4.length:Int)))) (af (aj (aa (vI (w64 (s_7+(x_4.length:Int)))) (aa (vB (decide ((w64 (s_7+(x_4.length:Int)))<0))) (af ?_)))))))))))))))))
   obtain ⟨v_12,h_13,hc_8⟩:=bind_some hc_8
   refine aS [(0,(vL (eL Rect.enc) slices_1)),(3,(vI (w64 (s_7+(x_4.length:Int))))),(9,(vL (eL Rect.enc) slices_1)),(10,(vI (slices_1.length:Int))),(11,(vI (k_2:Int)))] [] ?_ ?_
   ·rcases ak h_13 with⟨hc_14,h_13⟩|⟨hc_14,h_13⟩
    ·refine aA rfl hc_14 (av ?_)
     cases h_13
    ·refine ay rfl hc_14 (ax ?_)
     obtain rfl:=ae h_13
     exact cu
   ·rintro ⟨⟩ _ sl_ H_ hp_ hq_
    refine aO _ hp_ hq_ (av (fQ (bN hD_5 hn_6) wz rfl (aa (vI ((k_2+1:Nat):Int)) (af ?_))))
    obtain rfl:=ae hc_8
    exact aY (k_2+1,l_3,(w64 (s_7+(x_4.length:Int)))) ⟨hL_9,aW hD_5⟩ (ls_ _) rfl (aK rfl)
 ·rintro s_7 ho_ sl_ H_ hp_ hq_
  subst ho_
  refine aO _ hp_ hq_ (aj (aa (vI s_7) ?_))
  obtain ⟨b_15,hr_16,hF⟩:=bind_some hF
  refine h_callk (enc:=Rect.enc) (ow hr_16) rfl hb140 (by kernel_rfl) rfl (by kernel_rfl) wz (λn_17=>aa (kV b_15 n_17 4 ([]:List Rect)) (af (au (aj (aa (vL (eL Rect.enc) slices_1) (dx un209 rfl wz (aa (vI 0) (af ?_))))))))
  obtain ⟨o_28,hj_29,hF⟩:=bind_some hF
  obtain ⟨hn_22,hj_29⟩:=bI hj_29
  refine iw (σ:=(List Rect)) (N:=Nm) (λp=>(λ(s_23:List Rect) (n_25:Nm)=>([(6,(kV b_15 n_25 4 s_23))]:SL_)) p.1 p.2) (λp=>(λ(s_23:List Rect) (n_25:Nm)=>([(n_25,kB b_15 4 Rect.enc s_23)]:Hp)) p.1 p.2) (λ(k_18:Nat)=>(λp=>(λ(s_23:List Rect) (n_25:Nm)=>([(6,(kV b_15 n_25 4 s_23)),(25,(vL (eL Rect.enc) slices_1)),(26,(vI (slices_1.length:Int))),(27,(vI (k_18:Int)))]:SL_)) p.1 p.2)) (λk x s=>ig k x s) o_28 slices_1 (([]:List Rect),n_17) hj_29 rfl (aK rfl) ?_ ?_
  ·rintro ⟨k_18,l_19,s_23,n_25⟩ ⟨hL_27,hD_21⟩
   dsimp only at hL_27 hD_21
   cases l_19 with
   | nil =>
    obtain rfl:=ae hL_27
    refine aj (aa (vB (decide ((k_18:Int)<(slices_1.length:Int)))) (af ?_))
    refine au (ay rfl (drop_nil hD_21) (aX ?_))
    exact aV (s_23,n_25) rfl rfl (aK rfl)
   | cons x_20 l_19 =>
    obtain ⟨c_,hc_26,hL_27⟩:=bind_some hL_27
    refine aj (aa (vB (decide ((k_18:Int)<(slices_1.length:Int)))) (af ?_))
    refine au (aA rfl (bO hD_21) (ax ?_))
    unfold ig at hc_26
    refine au (aQ (aj (dW QI rfl rfl (bU hD_21) rfl wz (bK sz97 ag97 rfl (vL Rect.enc x_20) rfl wz (aa (vL Rect.enc x_20) (af (av (aa (kV b_15 n_25 4 s_23) (aa (vL Rect.enc x_20) ?_)))))))))
    obtain ⟨a_30,hz_31,hc_26⟩:=bind_some hc_26
    refine RP 0 il ft (i:=0) MP MP CF z96 rfl (by decide) by96 (by decide) (λ_=>rfl) rfl rfl rfl hz_31 wz (λn_32=>aa (kV b_15 n_32 4 a_30) (af (av (fQ (bN hD_21 hn_22) wz rfl (aa (vI ((k_18+1:Nat):Int)) (af ?_))))))
    obtain rfl:=ae hc_26
    exact aY (k_18+1,l_19,a_30,n_32) ⟨hL_27,aW hD_21⟩ (ls_ _) rfl (aK rfl)
  ·rintro ⟨s_23,n_25⟩ ho_ sl_ H_ hp_ hq_
   subst ho_
   refine aO _ hp_ hq_ (aj (aa (kV b_15 n_25 4 s_23) (aa (kV b_15 n_25 4 s_23) (af (P6 0 rfl (Mm 2 0 rfl rfl (Mm 6 0 rfl rfl (Mm 35 0 rfl rfl ?_))))))))
   obtain rfl:=ae hF
   exact aH (aN [(vL Rect.enc s_23)] ⟨rfl,trivial⟩)
theorem Ca {a_1:Run} {b_2:Run} {r:Int} (hF:uE a_1 b_2=some r) :
  FnM Tryz.prog 142 [(.d (.agg (Run.enc a_1))),(.d (.agg (Run.enc b_2)))] [] (vI r) []:=by
 refine FnM.of_wH ⟨Tryz.prog,10,[],[]⟩ rfl Tryz.func142 rfl rfl (lb_ rfl) (by kernel_rfl) ?_
 unfold uE at hF
 refine aj (d9 0 (.inl rfl) [(vI a_1.f_from),(vI a_1.f_to)] rfl rfl wz (λn_3=>d9 0 (.inl rfl) [(vI b_2.f_from),(vI b_2.f_to)] rfl rfl wz (λn_4=>aa (vI 0) (af (aj (aJ mr rfl 0 rfl wz (aB 0 0 il ft sz3 ag3 rfl rfl (vI a_1.f_from) rfl wz (aJ mr rfl 0 rfl wz (aB 0 1 il ft sz3 ag3 rfl rfl (vI b_2.f_from) rfl wz (aa (vI (w64 (a_1.f_from-b_2.f_from))) (aa (vI (w64 (a_1.f_from-b_2.f_from))) (af ?_))))))))))))
 obtain rfl:=ae hF
 exact aH (aN [(vI (w64 (a_1.f_from-b_2.f_from)))] ⟨rfl,trivial⟩)
theorem Ak {x_1:Int} {r:Int} (hF:qQ x_1=some r) :
  FnM Tryz.prog 96 [(.d (.int .u64 x_1))] [] (vI r) []:=by
 refine FnM.of_wH ⟨Tryz.prog,25,[],[]⟩ rfl Tryz.func96 rfl rfl (lb_ rfl) (by kernel_rfl) ?_
 unfold qQ at hF
 refine aj (aa (vI 0) (af (au (aj (aa (.d (.int .u64 x_1)) (aa (vB (decide (x_1>=4294967296))) (af ?_)))))))
 obtain ⟨v_2,h_3,hF⟩:=bind_some hF
 refine aS [(0,(.d (.int .u64 v_2.1))),(2,(vI v_2.2))] [] ?_ ?_
 ·rcases ak h_3 with⟨hc_4,h_3⟩|⟨hc_4,h_3⟩
  ·refine aA rfl hc_4 (aj (aa (.d (.int .u64 x_1)) ?_))
   obtain ⟨q_5,hz_6,h_3⟩:=bind_some h_3
   refine Im rfl rfl hz_6 wz (aa (.d (.int .u64 q_5)) (af (av (aa (vI 32) (af ?_)))))
   obtain rfl:=ae h_3
   exact cu
  ·refine ay rfl hc_4 (ax ?_)
   obtain rfl:=ae h_3
   exact cu
 ·rintro ⟨⟩ _ sl_ H_ hp_ hq_
  refine aO _ hp_ hq_ (au (aj (aa (.d (.int .u64 v_2.1)) (aa (vB (decide (v_2.1>=65536))) (af ?_)))))
  obtain ⟨v_7,h_8,hF⟩:=bind_some hF
  refine aS [(0,(.d (.int .u64 v_7.1))),(2,(vI v_7.2))] [] ?_ ?_
  ·rcases ak h_8 with⟨hc_9,h_8⟩|⟨hc_9,h_8⟩
   ·refine aA rfl hc_9 (aj (aa (.d (.int .u64 v_2.1)) ?_))
    obtain ⟨q_10,hz_11,h_8⟩:=bind_some h_8
    refine Im rfl rfl hz_11 wz (aa (.d (.int .u64 q_10)) (af (av (aa (vI v_2.2) (aa (vI (w64 (v_2.2+16))) (aa (vI (w64 (v_2.2+16))) (af ?_)))))))
    obtain rfl:=ae h_8
    exact cu
   ·refine ay rfl hc_9 (ax ?_)
    obtain rfl:=ae h_8
    exact cu
  ·rintro ⟨⟩ _ sl_ H_ hp_ hq_
   refine aO _ hp_ hq_ (au (aj (aa (.d (.int .u64 v_7.1)) (aa (vB (decide (v_7.1>=256))) (af ?_)))))
   obtain ⟨v_12,h_13,hF⟩:=bind_some hF
   refine aS [(0,(.d (.int .u64 v_12.1))),(2,(vI v_12.2))] [] ?_ ?_
   ·rcases ak h_13 with⟨hc_14,h_13⟩|⟨hc_14,h_13⟩
    ·refine aA rfl hc_14 (aj (aa (.d (.int .u64 v_7.1)) ?_))
     obtain ⟨q_15,hz_16,h_13⟩:=bind_some h_13
     refine Im rfl rfl hz_16 wz (aa (.d (.int .u64 q_15)) (af (av (aa (vI v_7.2) (aa (vI (w64 (v_7.2+8))) (aa (vI (w64 (v_7.2+8))) (af ?_)))))))
     obtain rfl:=ae h_13
     exact cu
    ·refine ay rfl hc_14 (ax ?_)
     obtain rfl:=ae h_13
     exact cu
   ·rintro ⟨⟩ _ sl_ H_ hp_ hq_
    refine aO _ hp_ hq_ (aj (aa (vI v_12.2) (aa (.d (.int .u64 v_12.1)) (oZ Kb un5 rfl wz ?_))))
    obtain ⟨b_17,hy_18,hF⟩:=bind_some hF
    refine zP un9 rfl rfl hy_18 wz (oZ un5 un3 rfl wz (aa (vI (w64 (v_12.2+(w64 (b_17.toNat:Int))))) (aa (vI (w64 (v_12.2+(w64 (b_17.toNat:Int))))) (af ?_))))
    obtain rfl:=ae hF
    exact aH (aN [(vI (w64 (v_12.2+(w64 (b_17.toNat:Int)))))] ⟨rfl,trivial⟩)
theorem Ct {x_1:Int} {r:Int} (hF:qo x_1=some r) :
  FnM Tryz.prog 62 [(.d (.int .u64 x_1))] [] (vI r) []:=by
 refine FnM.of_wH ⟨Tryz.prog,8,[],[]⟩ rfl Tryz.func62 rfl rfl (lb_ rfl) (by kernel_rfl) ?_
 unfold qo at hF
 refine aj (aa (vI 0) (af (au (ay rfl rfl (ax (aj (aa (.d (.int .u64 x_1)) ?_)))))))
 obtain ⟨r_2,hr_3,hF⟩:=bind_some hF
 refine aC (Ak hr_3) rfl hb96 rfl rfl rfl rfl wz (aa (vI r_2) (af ?_))
 obtain rfl:=ae hF
 exact aH (aN [(vI r_2)] ⟨rfl,trivial⟩)
theorem lu {data_1:(List Run)} {a_2:Int} {b_3:Int} {r:(List Run)} (hF:cz data_1 a_2 b_3=some r) :
  FnM Tryz.prog 181 [(dV (aG 0) 2 data_1),(vI a_2),(vI b_3),(.fn 142 [])] (([]:List Box)++gI 2 Run.enc data_1) (.tup []) (([]:List Box).map some++gT data_1 (gB 2 Run.enc r)):=by
 refine FnM.of_wHv ⟨Tryz.prog,53,[],[]⟩ rfl Tryz.func181 rfl rfl (lb_ rfl) (by kernel_rfl) ?_
 unfold cz at hF
 refine aj (aa (vI a_2) (aa (vI (w64 (a_2+1))) (aa (vI (w64 (a_2+1))) (af ?_))))
 obtain ⟨o_13,hj_14,hF⟩:=bind_some hF
 obtain ⟨nq_51,hj_14⟩:=cK hj_14
 refine fo (λ(s_10:(List Run)×Int)=>[]) (λ(s_10:(List Run)×Int)=>[((aG 0),gB 2 Run.enc s_10.1)]) (λ(k_5:Nat)=>(λ(s_10:(List Run)×Int)=>[(0,(dV (aG 0) 2 s_10.1)),(1,(vI a_2)),(2,(vI b_3)),(3,(.fn 142 [])),(8,(vI s_10.2))])) (λs=>bR b_3 a_2 s) o_13 nq_51 (data_1,(w64 (a_2+1))) hj_14 rfl (aK rfl) ?_ ?_
 ·rintro ⟨k_5,s_10⟩ hL_12
  dsimp only at hL_12
  cases k_5 with
  | zero=>cases hL_12
  | succ k_5 =>
   obtain ⟨c_,hc_11,hL_12⟩:=bind_some hL_12
   unfold bR at hc_11
   refine au (aj (aa (vI s_10.2) (aa (vI b_3) (aa (vB (decide (s_10.2<b_3))) (af ?_)))))
   rcases ak hc_11 with⟨hc_15,hc_11⟩|⟨hc_15,hc_11⟩
   ·refine aA rfl hc_15 (ax (au (aQ (aj (aa (vI s_10.2) (aa (vI s_10.2) (af ?_)))))))
    obtain ⟨o_24,hj_25,hc_11⟩:=bind_some hc_11
    obtain ⟨nq_50,hj_25⟩:=cK hj_25
    refine fo (λ(s_21:(List Run)×Int)=>[(0,(dV (aG 0) 2 s_21.1)),(1,(vI a_2)),(2,(vI b_3)),(3,(.fn 142 [])),(8,(vI s_10.2))]) (λ(s_21:(List Run)×Int)=>[((aG 0),gB 2 Run.enc s_21.1)]) (λ(k_16:Nat)=>(λ(s_21:(List Run)×Int)=>[(0,(dV (aG 0) 2 s_21.1)),(1,(vI a_2)),(2,(vI b_3)),(3,(.fn 142 [])),(8,(vI s_10.2)),(9,(vI s_21.2))])) (λs=>dB a_2 s) o_24 nq_50 (s_10.1,s_10.2) hj_25 rfl (aK rfl) ?_ ?_
    ·rintro ⟨k_16,s_21⟩ hL_23
     dsimp only at hL_23
     cases k_16 with
     | zero=>cases hL_23
     | succ k_16 =>
      obtain ⟨c_,hc_22,hL_23⟩:=bind_some hL_23
      unfold dB at hc_22
      refine au (au ?_)
      obtain ⟨v_26,h_27,hc_22⟩:=bind_some hc_22
      refine aS [(0,(dV (aG 0) 2 s_21.1)),(1,(vI a_2)),(2,(vI b_3)),(3,(.fn 142 [])),(8,(vI s_10.2)),(9,(vI s_21.2)),(34,(vB v_26))] [((aG 0),gB 2 Run.enc s_21.1)] ?_ ?_
      ·refine bE (aa (vI s_21.2) (aa (vI a_2) (aa (vB (decide (s_21.2>a_2))) ?_)))
       rcases ak h_27 with⟨hc_28,h_27⟩|⟨hc_28,h_27⟩
       ·refine aI rfl hc_28 wz (aM (.fn 142 []) wa rfl (aM (dV (aG 0) 2 s_21.1) wa rfl (aM (vI s_21.2) wa rfl ?_)))
        obtain ⟨_,hi_29,h_27⟩:=bind_some h_27
        refine mI nu rfl rfl (jW hi_29) (ik hi_29) wa ?_
        obtain ⟨e_30,hy_31,h_27⟩:=bind_some h_27
        refine lK 8 0 (.inr (by kernel_rfl)) (λ_ _ ag=>trivial) oL yj rfl rfl hy_31 (.d (.agg (Run.enc e_30))) rfl wa (aM (dV (aG 0) 2 s_21.1) wa rfl (aM (vI s_21.2) wa rfl (aM (vI (w64 (s_21.2-1))) wa rfl ?_)))
        obtain ⟨_,hi_32,h_27⟩:=bind_some h_27
        refine mI nu rfl rfl (jW hi_32) (ik hi_32) wa ?_
        obtain ⟨e_33,hy_34,h_27⟩:=bind_some h_27
        refine lK 13 0 (.inr (by kernel_rfl)) (λ_ _ ag=>⟨.inl ⟨rfl,rfl⟩,trivial⟩) oL yj rfl rfl hy_34 (.d (.agg (Run.enc e_33))) rfl wa ?_
        obtain ⟨r_35,hr_36,h_27⟩:=bind_some h_27
        refine aC (Ca hr_36) rfl hb142 rfl rfl rfl rfl wa (aM (vB (decide (r_35<0))) wa rfl (aa (vB (decide (r_35<0))) (af ?_)))
        obtain rfl:=ae h_27
        exact cu
       ·refine aI rfl hc_28 wz (ah (ah (ah (ah (ah (ah (ah (ah (ah (ah (ah (ah (aa (vB false) (af ?_))))))))))))))
        obtain rfl:=ae h_27
        exact cu
      ·rintro ⟨⟩ _ sl_ H_ hp_ hq_
       refine aO _ hp_ hq_ ?_
       rcases ak hc_22 with⟨hc_37,hc_22⟩|⟨hc_37,hc_22⟩
       ·refine aA rfl hc_37 (ax (au (aQ (bE (aa (dV (aG 0) 2 s_21.1) (aa (vI s_21.2) (aa (dV (aG 0) 2 s_21.1) (aa (vI s_21.2) (aa (vI (w64 (s_21.2-1))) (aa (dV (aG 0) 2 s_21.1) (aa (vI s_21.2) (aa (vI (w64 (s_21.2-1))) ?_))))))))))))
        obtain ⟨_,hi_38,hc_22⟩:=bind_some hc_22
        refine mI nu rfl rfl (jW hi_38) (ik hi_38) wz ?_
        obtain ⟨e_39,hy_40,hc_22⟩:=bind_some hc_22
        refine lK 9 0 (.inr (by kernel_rfl)) (λ_ _ ag=>trivial) oL yj rfl rfl hy_40 (.d (.agg (Run.enc e_39))) rfl wz (aa (dV (aG 0) 2 s_21.1) (aa (vI s_21.2) ?_))
        obtain ⟨_,hi_41,hc_22⟩:=bind_some hc_22
        refine mI nu rfl rfl (jW hi_41) (ik hi_41) wz ?_
        obtain ⟨e_42,hy_43,hc_22⟩:=bind_some hc_22
        refine lK 13 0 (.inr (by kernel_rfl)) (λ_ _ ag=>⟨.inl ⟨rfl,rfl⟩,trivial⟩) oL yj rfl rfl hy_43 (.d (.agg (Run.enc e_42))) rfl wz ?_
        obtain ⟨_,hi_44,hc_22⟩:=bind_some hc_22
        refine mI nu rfl rfl (jW hi_44) (ik hi_44) wz ?_
        obtain ⟨e_45,hy_46,hc_22⟩:=bind_some hc_22
        refine yF 15 (.inr (by kernel_rfl)) (λ_ _ ag=>⟨.inr (.inr (by kernel_rfl)),⟨.inr (.inr (by kernel_rfl)),trivial⟩⟩) 0 oL rfl rfl hy_46 e_39 rfl wz (dU (v':=(dV (aG 0) 2 (s_21.1.set (0+(s_21.2).toNat) e_39))) 0 rfl (gM (by simp)) (dU (v':=(dV (aG 0) 2 (s_21.1.set (0+(s_21.2).toNat) e_39))) 37 rfl (gM (by simp)) (dU (v':=(dV (aG 0) 2 (s_21.1.set (0+(s_21.2).toNat) e_39))) 39 rfl (gM (by simp)) (dU (v':=(dV (aG 0) 2 (s_21.1.set (0+(s_21.2).toNat) e_39))) 42 rfl (gM (by simp)) (dU (v':=(dV (aG 0) 2 (s_21.1.set (0+(s_21.2).toNat) e_39))) 47 rfl (gM (by simp)) ?_)))))
        obtain ⟨_,hi_47,hc_22⟩:=bind_some hc_22
        refine mI nu rfl rfl (jW hi_47) (ik hi_47) wz ?_
        obtain ⟨e_48,hy_49,hc_22⟩:=bind_some hc_22
        refine yF 17 (.inr (by kernel_rfl)) (λ_ _ ag=>⟨.inr (.inr (by kernel_rfl)),⟨.inr (.inr (by kernel_rfl)),⟨.inr (.inr (by kernel_rfl)),trivial⟩⟩⟩) 0 oL rfl rfl hy_49 e_42 rfl wz (dU (v':=(dV (aG 0) 2 ((s_21.1.set (0+(s_21.2).toNat) e_39).set (0+((w64 (s_21.2-1))).toNat) e_42))) 0 rfl (gM (by simp)) (dU (v':=(dV (aG 0) 2 ((s_21.1.set (0+(s_21.2).toNat) e_39).set (0+((w64 (s_21.2-1))).toNat) e_42))) 37 rfl (gM (by simp)) (dU (v':=(dV (aG 0) 2 ((s_21.1.set (0+(s_21.2).toNat) e_39).set (0+((w64 (s_21.2-1))).toNat) e_42))) 39 rfl (gM (by simp)) (dU (v':=(dV (aG 0) 2 ((s_21.1.set (0+(s_21.2).toNat) e_39).set (0+((w64 (s_21.2-1))).toNat) e_42))) 42 rfl (gM (by simp)) (dU (v':=(dV (aG 0) 2 ((s_21.1.set (0+(s_21.2).toNat) e_39).set (0+((w64 (s_21.2-1))).toNat) e_42))) 47 rfl (gM (by simp)) (af (av (aa (vI s_21.2) (aa (vI (w64 (s_21.2-1))) (aa (vI (w64 (s_21.2-1))) (af ?_)))))))))))
        obtain rfl:=ae hc_22
        exact aY (k_16,(((s_21.1.set (0+(s_21.2).toNat) e_39).set (0+((w64 (s_21.2-1))).toNat) e_42),(w64 (s_21.2-1)))) hL_23 (ls_ _) rfl (aK rfl)
       ·refine ay rfl hc_37 (aX ?_)
        obtain rfl:=ae hc_22
        obtain rfl:=ae hL_23
        exact aV ((s_21.1,s_21.2)) rfl rfl (aK rfl)
    ·rintro s_21 ho_ sl_ H_ hp_ hq_
     subst ho_
     refine aO _ hp_ hq_ (av (aa (vI s_10.2) (aa (vI (w64 (s_10.2+1))) (aa (vI (w64 (s_10.2+1))) (af ?_)))))
     obtain rfl:=ae hc_11
     exact aY (k_5,(s_21.1,(w64 (s_10.2+1)))) hL_12 (ls_ _) rfl (aK rfl)
   ·refine ay rfl hc_15 (aX ?_)
    obtain rfl:=ae hc_11
    obtain rfl:=ae hL_12
    exact aV ((s_10.1,s_10.2)) rfl rfl (aK rfl)
 ·rintro s_10 ho_ sl_ H_ hp_ hq_
  subst ho_
  show wY _ _ _ _ _ _ _ _
  obtain rfl:=ae hF
  exact Ei (H0:=([((aG 0),gB 2 Run.enc s_10.1)]:Hp)) (sl':=envS []) hq_ (pG (bs:=([]:List Box)) (os:=([]:List Box)) (xs:=data_1) (o:=gB 2 Run.enc s_10.1) (.inl rfl) [] trivial rfl rfl rfl rfl rfl (by kernel_rfl) nU rfl)
theorem ny {data_1:(List Run)} {a_2:Int} {b_3:Int} {limit_4:Int} {r:(List Run)} (hF:dF data_1 a_2 b_3 limit_4=some r) :
  FnM Tryz.prog 167 [(dV (aG 0) 2 data_1),(vI a_2),(vI b_3),(vI limit_4),(.fn 142 [])] (([]:List Box)++gI 2 Run.enc data_1) (.tup []) (([]:List Box).map some++gT data_1 (gB 2 Run.enc r)):=by
 refine FnM.of_wHv ⟨Tryz.prog,148,[],[]⟩ rfl Tryz.func167 rfl rfl (lb_ rfl) (by kernel_rfl) ?_
 unfold dF at hF
 refine aj (aa (vB true) (af (aj (aa (vB true) (af ?_)))))
 obtain ⟨o_14,hj_15,hF⟩:=bind_some hF
 obtain ⟨nq_21,hj_15⟩:=cK hj_15
 refine fo (λ(s_11:Unit)=>[]) (λ(s_11:Unit)=>[((aG 0),gB 2 Run.enc data_1)]) (λ(k_6:Nat)=>(λ(s_11:Unit)=>[(0,(dV (aG 0) 2 data_1)),(1,(vI a_2)),(2,(vI b_3)),(3,(vI limit_4)),(4,(.fn 142 [])),(10,(vB true)),(11,(vB true))])) (λs=>dz b_3 a_2 data_1 limit_4 s) o_14 nq_21 () hj_15 rfl (aK rfl) ?_ ?_
 ·rintro ⟨k_6,s_11⟩ hL_13
  dsimp only at hL_13
  cases k_6 with
  | zero=>cases hL_13
  | succ k_6 =>
   obtain ⟨c_,hc_12,hL_13⟩:=bind_some hL_13
   unfold dz at hc_12
   refine aQ (aj (aa (vI b_3) (aa (vI a_2) (aa (vI (w64 (b_3-a_2))) (aa (vI (w64 (b_3-a_2))) (af (au (aj (aa (vI (w64 (b_3-a_2))) (aa (vB (decide ((w64 (b_3-a_2))<=12))) (af ?_)))))))))))
   rcases ak hc_12 with⟨hc_16,hc_12⟩|⟨hc_16,hc_12⟩
   ·refine aA rfl hc_16 (aj (aa (dV (aG 0) 2 data_1) (aa (vI a_2) (aa (vI b_3) (aa (.fn 142 []) ?_)))))
    obtain ⟨r_17,hr_18,hc_12⟩:=bind_some hc_12
    obtain ⟨_,hs_19,hc_12⟩:=bind_some hc_12
    replace hs_19:=lQ hs_19
    refine lL 0 [] 0 0 il ft (lu hr_18) rfl hb181 rfl rfl rfl (by kernel_rfl) rfl (.inr (.inl rfl)) rfl (by kernel_rfl) (by kernel_rfl) (by kernel_rfl) (by kernel_rfl) rfl (by decide) (by kernel_rfl) nU (vD hs_19) wz ([((aG 0),gB 2 Run.enc r_17)]:Hp) (by kernel_rfl) (dU (v':=(dV (aG 0) 2 r_17)) 0 rfl (gM hs_19.symm) (dU (v':=(dV (aG 0) 2 r_17)) 26 rfl (gM hs_19.symm) (af ?_)))
    obtain rfl:=ae hc_12
    obtain rfl:=ae hL_13
    obtain rfl:=ae hF
    exact aH (pG (bs:=([]:List Box)) (os:=([]:List Box)) (xs:=data_1) (o:=gB 2 Run.enc r_17) (.inr rfl) [] trivial rfl rfl rfl rfl rfl (by kernel_rfl) nU rfl)
   ·refine ay rfl hc_16 (ax (au (aj (aa (vI limit_4) (aa (vB (limit_4==0)) (af ?_))))))
    rcases ak hc_12 with⟨hc_20,hc_12⟩|⟨hc_20,hc_12⟩
    ·refine aA rfl hc_20 (aj (aa (dV (aG 0) 2 data_1) (aa (vI a_2) (aa (vI b_3) (aa (.fn 142 []) ?_)))))
     cases hc_12
    ·refine ay rfl hc_20 (ax (au (aj (aa (vB true) (aa (vB false) (af (ay rfl rfl (ax (aj (aa (dV (aG 0) 2 data_1) (aa (vI a_2) (aa (vI b_3) (aa (.fn 142 []) ?_)))))))))))))
     cases hc_12
 ·rintro s_11 ho_ sl_ H_ hp_ hq_
  subst ho_
  show wY _ _ _ _ _ _ _ _
  obtain rfl:=ae hF
  exact Ei (H0:=([((aG 0),gB 2 Run.enc data_1)]:Hp)) (sl':=envS []) hq_ (pG (bs:=([]:List Box)) (os:=([]:List Box)) (xs:=data_1) (o:=gB 2 Run.enc data_1) (.inl rfl) [] trivial rfl rfl rfl rfl rfl (by kernel_rfl) nU rfl)
theorem lF {x_1:(List Run)} {r:(List Run)} (hF:dh x_1=some r) :
  FnM Tryz.prog 141 [(dV (aG 0) 2 x_1),(.fn 142 [])] (([]:List Box)++gI 2 Run.enc x_1) (.tup []) (([]:List Box).map some++gT x_1 (gB 2 Run.enc r)):=by
 refine FnM.of_wHv ⟨Tryz.prog,14,[],[]⟩ rfl Tryz.func141 rfl rfl (lb_ rfl) (by kernel_rfl) ?_
 unfold dh at hF
 refine aj (aa (dV (aG 0) 2 x_1) (Cr zw rfl wz (aa (vI (x_1.length:Int)) (af (av (aa (dV (aG 0) 2 x_1) (aa (vI (x_1.length:Int)) (aa (vI (x_1.length:Int)) (oZ un3 CW rfl wz ?_)))))))))
 obtain ⟨r_3,hr_4,hF⟩:=bind_some hF
 refine aC (Ct hr_4) rfl hb62 rfl rfl rfl rfl wz (aa (.fn 142 []) ?_)
 obtain ⟨r_5,hr_6,hF⟩:=bind_some hF
 obtain ⟨_,hs_7,hF⟩:=bind_some hF
 replace hs_7:=lQ hs_7
 refine lL 0 [] 0 0 il ft (ny hr_6) rfl hb167 rfl rfl rfl (by kernel_rfl) rfl (.inr (.inl rfl)) rfl (by kernel_rfl) (by kernel_rfl) (by kernel_rfl) (by kernel_rfl) rfl (by decide) (by kernel_rfl) nU (vD hs_7) wz ([((aG 0),gB 2 Run.enc r_5)]:Hp) (by kernel_rfl) (dU (v':=(dV (aG 0) 2 r_5)) 0 rfl (gM hs_7.symm) (dU (v':=(dV (aG 0) 2 r_5)) 5 rfl (gM hs_7.symm) (dU (v':=(dV (aG 0) 2 r_5)) 7 rfl (gM hs_7.symm) (af ?_))))
 show wY _ _ _ _ _ _ _ _
 obtain rfl:=ae hF
 exact pG (bs:=([]:List Box)) (os:=([]:List Box)) (xs:=x_1) (o:=gB 2 Run.enc r_5) (.inl rfl) [] trivial rfl rfl rfl rfl rfl (by kernel_rfl) nU rfl
theorem xU {l_1:(List Rect)} {y_2:Int} {r:(List Run)} (hF:oK l_1 y_2=some r) :
  FnM Tryz.prog 100 [(vL Rect.enc l_1),(vI y_2)] [] (vL Run.enc r) []:=by
 refine FnM.of_wH ⟨Tryz.prog,84,[],[]⟩ rfl Tryz.func100 rfl rfl (lb_ rfl) (by kernel_rfl) ?_
 unfold oK at hF
 refine aj (aa .nil (af (aj (aa .nil (af (au (aj (aa (vL Rect.enc l_1) (dx JG rfl wz (aa (vI 0) (af (jH (λn_9 => ?_)))))))))))))
 obtain ⟨o_14,hj_15,hF⟩:=bind_some hF
 obtain ⟨hn_7,hj_15⟩:=bI hj_15
 refine iw (σ:=(List Run)) (N:=Nm) (λp=>(λ(s_8:List Run) (n_11:Nm)=>([(5,(gV n_11 2 s_8))]:SL_)) p.1 p.2) (λp=>(λ(s_8:List Run) (n_11:Nm)=>([(n_11,gB 2 Run.enc s_8)]:Hp)) p.1 p.2) (λ(k_3:Nat)=>(λp=>(λ(s_8:List Run) (n_11:Nm)=>([(1,(vI y_2)),(5,(gV n_11 2 s_8)),(12,(vL Rect.enc l_1)),(13,(vI (l_1.length:Int))),(14,(vI (k_3:Int)))]:SL_)) p.1 p.2)) (λk x s=>oU y_2 k x s) o_14 l_1 (([]:List Run),n_9) hj_15 rfl (aK rfl) ?_ ?_
 ·rintro ⟨k_3,l_4,s_8,n_11⟩ ⟨hL_13,hD_6⟩
  dsimp only at hL_13 hD_6
  cases l_4 with
  | nil =>
   obtain rfl:=ae hL_13
   refine aj (aa (vB (decide ((k_3:Int)<(l_1.length:Int)))) (af ?_))
   refine au (ay rfl (drop_nil hD_6) (aX ?_))
   exact aV (s_8,n_11) rfl rfl (aK rfl)
  | cons x_5 l_4 =>
   obtain ⟨c_,hc_12,hL_13⟩:=bind_some hL_13
   refine aj (aa (vB (decide ((k_3:Int)<(l_1.length:Int)))) (af ?_))
   refine au (aA rfl (bO hD_6) (ax ?_))
   unfold oU at hc_12
   refine au (aQ (aj (dW O9 rfl rfl (bU hD_6) rfl wz (bK CF QF rfl (.d (.agg (Rect.enc x_5))) rfl wz (dC 0 (.inl rfl) z96 rfl wz (λn_16=>fA 0 il ft 1 CF rfl rfl (Rect.v x_5) rfl wz (af (au ?_))))))))
   obtain ⟨v_17,h_18,hc_12⟩:=bind_some hc_12
   refine aS [(1,(vI y_2)),(5,(gV n_11 2 s_8)),(7,(.ref n_16 0 0)),(12,(vL Rect.enc l_1)),(13,(vI (l_1.length:Int))),(14,(vI (k_3:Int))),(30,(vB v_17))] [(n_11,gB 2 Run.enc s_8),(n_16,some (.cells 4 (Rect.v x_5)))] ?_ ?_
   ·refine av (aJ BM rfl 1 rfl wz (aB 0 1 il ft sz3 ag3 rfl rfl (vI x_5.Y) rfl wz (aa (vI y_2) (aa (vB (decide (x_5.Y<=y_2))) ?_))))
    rcases ak h_18 with⟨hc_19,h_18⟩|⟨hc_19,h_18⟩
    ·refine aI rfl hc_19 wz (aM (vI y_2) wa rfl (aJ BM rfl 1 rfl wa (aB 0 1 il ft sz3 ag3 rfl rfl (vI x_5.Y) rfl wa (aJ IZ rfl 3 rfl wa (aB 0 1 il ft sz3 ag3 rfl rfl (vI x_5.H) rfl wa (aM (vI (w64 (x_5.Y+x_5.H))) wa rfl (aM (vB (decide (y_2<(w64 (x_5.Y+x_5.H))))) wa rfl (aa (vB (decide (y_2<(w64 (x_5.Y+x_5.H))))) (af ?_)))))))))
     obtain rfl:=ae h_18
     exact cu
    ·refine aI rfl hc_19 wz (ah (ah (ah (ah (ah (ah (ah (aa (vB false) (af ?_)))))))))
     obtain rfl:=ae h_18
     exact cu
   ·rintro ⟨⟩ _ sl_ H_ hp_ hq_
    refine aO _ hp_ hq_ ?_
    obtain ⟨v_20,h_21,hc_12⟩:=bind_some hc_12
    refine jA (β:=Nm) (λ(n_22:Nm)=>([(1,(vI y_2)),(5,(gV n_22 2 v_20)),(12,(vL Rect.enc l_1)),(13,(vI (l_1.length:Int))),(14,(vI (k_3:Int)))]:SL_)) (λ(n_22:Nm)=>([(n_22,gB 2 Run.enc v_20),(n_16,some (.cells 4 (Rect.v x_5)))]:Hp)) (λ_=>True) ?_ ?_
    ·rcases ak h_21 with⟨hc_23,h_21⟩|⟨hc_23,h_21⟩
     ·refine aA rfl hc_23 (av (aa (gV n_11 2 s_8) (aJ Jh rfl 0 rfl wz (aB 0 1 il ft sz3 ag3 rfl rfl (vI x_5.X) rfl wz (aJ Jh rfl 0 rfl wz (aB 0 1 il ft sz3 ag3 rfl rfl (vI x_5.X) rfl wz (aJ L6 rfl 2 rfl wz (aB 0 1 il ft sz3 ag3 rfl rfl (vI x_5.W) rfl wz (aa (vI (w64 (x_5.X+x_5.W))) (aM (.d (.agg (Run.enc (⟨x_5.X,(w64 (x_5.X+x_5.W))⟩:Run)))) wz (by kernel_rfl) (eQ (([(⟨x_5.X,(w64 (x_5.X+x_5.W))⟩:Run)]:List Run).map Run.enc) nu NC rfl rfl rfl rfl rfl wz ?_)))))))))))
      obtain ⟨a_24,hz_25,h_21⟩:=bind_some h_21
      refine jh 0 il ft (i:=0) Dq Dq oL LG rfl (by decide) NT (by decide) (λ_=>rfl) rfl rfl rfl hz_25 wz (λn_26=>aa (gV n_26 2 a_24) (af ?_))
      obtain rfl:=ae h_21
      exact aV n_26 trivial rfl (aK rfl)
     ·refine ay rfl hc_23 (ax ?_)
      obtain rfl:=ae h_21
      exact aV n_11 trivial rfl (aK rfl)
    ·rintro n_22 _ sl_ H_ hp_ hq_
     refine aO _ hp_ hq_ (av (fQ (bN hD_6 hn_7) wz rfl (aa (vI ((k_3+1:Nat):Int)) (af ?_))))
     obtain rfl:=ae hc_12
     exact aY (k_3+1,l_4,v_20,n_22) ⟨hL_13,aW hD_6⟩ (ls_ _) rfl (aK rfl)
 ·rintro ⟨s_8,n_11⟩ ho_ sl_ H_ hp_ hq_
  subst ho_
  refine aO _ hp_ hq_ (aj (aa (gV n_11 2 s_8) ?_))
  obtain ⟨r_27,hr_28,hF⟩:=bind_some hF
  obtain ⟨_,hs_29,hF⟩:=bind_some hF
  replace hs_29:=lQ hs_29
  refine lL 0 [] 0 0 il ft (lF hr_28) rfl hb141 rfl rfl rfl (by kernel_rfl) rfl (.inl rfl) rfl (by kernel_rfl) (by kernel_rfl) (by kernel_rfl) (by kernel_rfl) rfl (by decide) (by kernel_rfl) nU (vD hs_29) wz ([(n_11,gB 2 Run.enc r_27)]:Hp) (by kernel_rfl) (dU (v':=(gV n_11 2 r_27)) 43 rfl (jm hs_29.symm) (dU (v':=(gV n_11 2 r_27)) 5 rfl (jm hs_29.symm) (af (aj (aa .nil (af (au (aj (aa (gV n_11 2 r_27) (Ar zw rfl wz (aa (vI 0) (af (fB 0 rfl (bX 5 0 rfl rfl (bX 43 0 rfl rfl (bX 45 0 rfl rfl (jH (λn_36 => ?_))))))))))))))))))
  obtain ⟨o_41,hj_42,hF⟩:=bind_some hF
  obtain ⟨hn_34,hj_42⟩:=bI hj_42
  refine iw (σ:=(List Run)) (N:=Nm) (λp=>(λ(s_35:List Run) (n_38:Nm)=>([(8,(gV n_38 2 s_35))]:SL_)) p.1 p.2) (λp=>(λ(s_35:List Run) (n_38:Nm)=>([(n_11,gF 2 Run.enc r_27),(n_38,gB 2 Run.enc s_35)]:Hp)) p.1 p.2) (λ(k_30:Nat)=>(λp=>(λ(s_35:List Run) (n_38:Nm)=>([(8,(gV n_38 2 s_35)),(45,(vL Run.enc r_27)),(46,(vI (r_27.length:Int))),(47,(vI (k_30:Int)))]:SL_)) p.1 p.2)) (λk x s=>oW k x s) o_41 r_27 (([]:List Run),n_36) hj_42 rfl (aK rfl) ?_ ?_
  ·rintro ⟨k_30,l_31,s_35,n_38⟩ ⟨hL_40,hD_33⟩
   dsimp only at hL_40 hD_33
   cases l_31 with
   | nil =>
    obtain rfl:=ae hL_40
    refine aj (aa (vB (decide ((k_30:Int)<(r_27.length:Int)))) (af ?_))
    refine au (ay rfl (drop_nil hD_33) (aX ?_))
    exact aV (s_35,n_38) rfl rfl (aK rfl)
   | cons x_32 l_31 =>
    obtain ⟨c_,hc_39,hL_40⟩:=bind_some hL_40
    refine aj (aa (vB (decide ((k_30:Int)<(r_27.length:Int)))) (af ?_))
    refine au (aA rfl (bO hD_33) (ax ?_))
    unfold oW at hc_39
    refine au (aQ (aj (dW nu rfl rfl (bU hD_33) rfl wz (bK oL yj rfl (.d (.agg (Run.enc x_32))) rfl wz (dC 0 (.inl rfl) LG rfl wz (λn_43=>fA 0 il ft 2 oL rfl rfl [(vI x_32.f_from),(vI x_32.f_to)] rfl wz (af (aj (aa (gV n_38 2 s_35) (Ar zw rfl wz (aa (vI (w64 ((s_35.length:Int)-1))) (aa (vI (w64 ((s_35.length:Int)-1))) (af (au ?_))))))))))))))
    obtain ⟨v_44,h_45,hc_39⟩:=bind_some hc_39
    refine aS [(8,(gV n_38 2 s_35)),(10,(.ref n_43 0 0)),(11,(vI (w64 ((s_35.length:Int)-1)))),(45,(vL Run.enc r_27)),(46,(vI (r_27.length:Int))),(47,(vI (k_30:Int))),(65,(vB v_44))] [(n_11,gF 2 Run.enc r_27),(n_38,gB 2 Run.enc s_35),(n_43,some (.cells 2 [(vI x_32.f_from),(vI x_32.f_to)]))] ?_ ?_
    ·refine bE (aa (vI (w64 ((s_35.length:Int)-1))) (aa (vB (decide ((w64 ((s_35.length:Int)-1))>=0))) ?_))
     rcases ak h_45 with⟨hc_46,h_45⟩|⟨hc_46,h_45⟩
     ·refine aI rfl hc_46 wz (aJ mr rfl 0 rfl wa (aB 4 2 (.inr (by kernel_rfl)) (λ_ _ ag=>trivial) sz3 ag3 rfl rfl (vI x_32.f_from) rfl wa (aM (gV n_38 2 s_35) wa rfl (aM (vI (w64 ((s_35.length:Int)-1))) wa rfl ?_))))
      obtain ⟨_,hi_47,h_45⟩:=bind_some h_45
      refine uP nu rfl rfl (jW hi_47) (ik hi_47) wa (aJ rU rfl 1 rfl wa ?_)
      obtain ⟨e_48,hy_49,h_45⟩:=bind_some h_45
      refine lK 9 1 (.inr (by kernel_rfl)) (λ_ _ ag=>⟨.inl ⟨rfl,rfl⟩,trivial⟩) sz3 ag3 rfl rfl hy_49 (vI e_48.f_to) rfl wa (aM (vB (decide (x_32.f_from<=e_48.f_to))) wa rfl (aa (vB (decide (x_32.f_from<=e_48.f_to))) (af ?_)))
      obtain rfl:=ae h_45
      exact cu
     ·refine aI rfl hc_46 wz (ah (ah (ah (ah (ah (ah (ah (ah (aa (vB false) (af ?_))))))))))
      obtain rfl:=ae h_45
      exact cu
    ·rintro ⟨⟩ _ sl_ H_ hp_ hq_
     refine aO _ hp_ hq_ ?_
     obtain ⟨v_50,h_51,hc_39⟩:=bind_some hc_39
     refine jA (β:=Nm) (λ(n_52:Nm)=>([(8,(gV n_52 2 v_50)),(45,(vL Run.enc r_27)),(46,(vI (r_27.length:Int))),(47,(vI (k_30:Int)))]:SL_)) (λ(n_52:Nm)=>([(n_11,gF 2 Run.enc r_27),(n_52,gB 2 Run.enc v_50),(n_43,some (.cells 2 [(vI x_32.f_from),(vI x_32.f_to)]))]:Hp)) (λ_=>True) ?_ ?_
     ·rcases ak h_51 with⟨hc_53,h_51⟩|⟨hc_53,h_51⟩
      ·refine aA rfl hc_53 (bE (aa (gV n_38 2 s_35) (aa (vI (w64 ((s_35.length:Int)-1))) (aa (gV n_38 2 s_35) (aa (vI (w64 ((s_35.length:Int)-1))) ?_)))))
       obtain ⟨_,hi_54,h_51⟩:=bind_some h_51
       refine uP nu rfl rfl (jW hi_54) (ik hi_54) wz (aJ rU rfl 1 rfl wz ?_)
       obtain ⟨e_55,hy_56,h_51⟩:=bind_some h_51
       refine lK 6 1 (.inr (by kernel_rfl)) (λ_ _ ag=>trivial) sz3 ag3 rfl rfl hy_56 (vI e_55.f_to) rfl wz (aJ rU rfl 1 rfl wz (aB 8 2 (.inr (by kernel_rfl)) (λ_ _ ag=>⟨.inl ⟨rfl,rfl⟩,trivial⟩) sz3 ag3 rfl rfl (vI x_32.f_to) rfl wz (ni (vI (fZ e_55.f_to x_32.f_to)) rfl (.inr rfl) wz ?_)))
       obtain ⟨_,hi_57,h_51⟩:=bind_some h_51
       refine uP nu rfl rfl (jW hi_57) (ik hi_57) wz (aJ rU rfl 1 rfl wz ?_)
       obtain ⟨e_58,hy_59,h_51⟩:=bind_some h_51
       refine yF 12 (.inr (by kernel_rfl)) (λ_ _ ag=>⟨.inr (.inr (by kernel_rfl)),⟨.inr (.inr (by kernel_rfl)),trivial⟩⟩) 1 sz3 rfl rfl hy_59 (⟨e_58.f_from,(fZ e_55.f_to x_32.f_to)⟩:Run) rfl wz (dU (v':=(gV n_38 2 (s_35.set (0+((w64 ((s_35.length:Int)-1))).toNat) (⟨e_58.f_from,(fZ e_55.f_to x_32.f_to)⟩:Run)))) 8 rfl (jm (by simp)) (dU (v':=(gV n_38 2 (s_35.set (0+((w64 ((s_35.length:Int)-1))).toNat) (⟨e_58.f_from,(fZ e_55.f_to x_32.f_to)⟩:Run)))) 66 rfl (jm (by simp)) (dU (v':=(gV n_38 2 (s_35.set (0+((w64 ((s_35.length:Int)-1))).toNat) (⟨e_58.f_from,(fZ e_55.f_to x_32.f_to)⟩:Run)))) 68 rfl (jm (by simp)) (af ?_))))
       obtain rfl:=ae h_51
       exact aV n_38 trivial rfl (aK rfl)
      ·refine ay rfl hc_53 (av (aa (gV n_38 2 s_35) (aB 0 2 il ft oL yj rfl rfl (.d (.agg (Run.enc x_32))) rfl wz (eQ (([x_32]:List Run).map Run.enc) nu NC rfl rfl rfl rfl rfl wz ?_))))
       obtain ⟨a_60,hz_61,h_51⟩:=bind_some h_51
       refine jh 0 il ft (i:=1) Dq Dq oL LG rfl (by decide) NT (by decide) (λ_=>rfl) rfl rfl rfl hz_61 wz (λn_62=>aa (gV n_62 2 a_60) (af ?_))
       obtain rfl:=ae h_51
       exact aV n_62 trivial rfl (aK rfl)
     ·rintro n_52 _ sl_ H_ hp_ hq_
      refine aO _ hp_ hq_ (av (fQ (bN hD_33 hn_34) wz rfl (aa (vI ((k_30+1:Nat):Int)) (af ?_))))
      obtain rfl:=ae hc_39
      exact aY (k_30+1,l_31,v_50,n_52) ⟨hL_40,aW hD_33⟩ (ls_ _) rfl (aK rfl)
  ·rintro ⟨s_35,n_38⟩ ho_ sl_ H_ hp_ hq_
   subst ho_
   refine aO _ hp_ hq_ (aj (aa (gV n_38 2 s_35) (aa (gV n_38 2 s_35) (af (fB 1 rfl (bX 4 1 rfl rfl (bX 8 1 rfl rfl (bX 83 1 rfl rfl ?_))))))))
   obtain rfl:=ae hF
   exact aH (aN [(vL Run.enc s_35)] ⟨rfl,trivial⟩)
theorem ET {l_1:(List Run)} {m_2:(List Run)} {r:(List Run)} (hF:qE l_1 m_2=some r) :
  FnM Tryz.prog 99 [(vL Run.enc l_1),(vL Run.enc m_2)] [] (vL Run.enc r) []:=by
 refine FnM.of_wH ⟨Tryz.prog,88,[],[]⟩ rfl Tryz.func99 rfl rfl (lb_ rfl) (by kernel_rfl) ?_
 unfold qE at hF
 refine aj (aa .nil (af (aj (aa .nil (af (aj (aa (vI 0) (af (au (aj (aa (vL Run.enc l_1) (dx zw rfl wz (aa (vI 0) (af (jH (λn_9 => ?_))))))))))))))))
 obtain ⟨o_14,hj_15,hF⟩:=bind_some hF
 obtain ⟨hn_7,hj_15⟩:=bI hj_15
 refine iw (σ:=(List Run)×Int) (N:=Nm) (λp=>(λ(s_8:(List Run)×Int) (n_11:Nm)=>([(5,(gV n_11 2 s_8.1))]:SL_)) p.1 p.2) (λp=>(λ(s_8:(List Run)×Int) (n_11:Nm)=>([(n_11,gB 2 Run.enc s_8.1)]:Hp)) p.1 p.2) (λ(k_3:Nat)=>(λp=>(λ(s_8:(List Run)×Int) (n_11:Nm)=>([(1,(vL Run.enc m_2)),(5,(gV n_11 2 s_8.1)),(6,(vI s_8.2)),(10,(vL Run.enc l_1)),(11,(vI (l_1.length:Int))),(12,(vI (k_3:Int)))]:SL_)) p.1 p.2)) (λk x s=>mQ m_2 k x s) o_14 l_1 ((([]:List Run),0),n_9) hj_15 rfl (aK rfl) ?_ ?_
 ·rintro ⟨k_3,l_4,s_8,n_11⟩ ⟨hL_13,hD_6⟩
  dsimp only at hL_13 hD_6
  cases l_4 with
  | nil =>
   obtain rfl:=ae hL_13
   refine aj (aa (vB (decide ((k_3:Int)<(l_1.length:Int)))) (af ?_))
   refine au (ay rfl (drop_nil hD_6) (aX ?_))
   exact aV (s_8,n_11) rfl rfl (aK rfl)
  | cons x_5 l_4 =>
   obtain ⟨c_,hc_12,hL_13⟩:=bind_some hL_13
   refine aj (aa (vB (decide ((k_3:Int)<(l_1.length:Int)))) (af ?_))
   refine au (aA rfl (bO hD_6) (ax ?_))
   unfold mQ at hc_12
   refine au (aQ (aj (dW nu rfl rfl (bU hD_6) rfl wz (bK oL yj rfl (.d (.agg (Run.enc x_5))) rfl wz (dC 0 (.inl rfl) LG rfl wz (λn_16=>fA 0 il ft 1 oL rfl rfl [(vI x_5.f_from),(vI x_5.f_to)] rfl wz (af (au ?_))))))))
   obtain ⟨o_25,hj_26,hc_12⟩:=bind_some hc_12
   obtain ⟨nq_72,hj_26⟩:=cK hj_26
   refine fo (λ(s_22:Int)=>[(1,(vL Run.enc m_2)),(5,(gV n_11 2 s_8.1)),(6,(vI s_22)),(8,(.ref n_16 0 0)),(10,(vL Run.enc l_1)),(11,(vI (l_1.length:Int))),(12,(vI (k_3:Int)))]) (λ(s_22:Int)=>[(n_11,gB 2 Run.enc s_8.1),(n_16,some (.cells 2 [(vI x_5.f_from),(vI x_5.f_to)]))]) (λ(k_17:Nat)=>(λ(s_22:Int)=>[(1,(vL Run.enc m_2)),(5,(gV n_11 2 s_8.1)),(6,(vI s_22)),(8,(.ref n_16 0 0)),(10,(vL Run.enc l_1)),(11,(vI (l_1.length:Int))),(12,(vI (k_3:Int)))])) (λs=>pg m_2 x_5 s) o_25 nq_72 s_8.2 hj_26 rfl (aK rfl) ?_ ?_
   ·rintro ⟨k_17,s_22⟩ hL_24
    dsimp only at hL_24
    cases k_17 with
    | zero=>cases hL_24
    | succ k_17 =>
     obtain ⟨c_,hc_23,hL_24⟩:=bind_some hL_24
     unfold pg at hc_23
     refine au (au ?_)
     obtain ⟨v_27,h_28,hc_23⟩:=bind_some hc_23
     refine aS [(1,(vL Run.enc m_2)),(5,(gV n_11 2 s_8.1)),(6,(vI s_22)),(8,(.ref n_16 0 0)),(10,(vL Run.enc l_1)),(11,(vI (l_1.length:Int))),(12,(vI (k_3:Int))),(29,(vB v_27))] [(n_11,gB 2 Run.enc s_8.1),(n_16,some (.cells 2 [(vI x_5.f_from),(vI x_5.f_to)]))] ?_ ?_
     ·refine bE (aa (vI s_22) (aa (vL Run.enc m_2) (dx zw rfl wz (aa (vB (decide (s_22<(m_2.length:Int)))) ?_))))
      rcases ak h_28 with⟨hc_29,h_28⟩|⟨hc_29,h_28⟩
      ·refine aI rfl hc_29 wz (aM (vL Run.enc m_2) wa rfl (aM (vI s_22) wa rfl ?_))
       obtain ⟨y_30,hy_31,h_28⟩:=bind_some h_28
       refine dW nu rfl rfl hy_31 rfl wa (kP rU rfl [.int .i64 y_30.f_to] rfl rfl wa (bK sz3 ag3 rfl (vI y_30.f_to) rfl wa (aJ mr rfl 0 rfl wa (aB 11 1 (.inr (by kernel_rfl)) (λ_ _ ag=>trivial) sz3 ag3 rfl rfl (vI x_5.f_from) rfl wa (aM (vB (decide (y_30.f_to<=x_5.f_from))) wa rfl (aa (vB (decide (y_30.f_to<=x_5.f_from))) (af ?_)))))))
       obtain rfl:=ae h_28
       exact cu
      ·refine aI rfl hc_29 wz (ah (ah (ah (ah (ah (ah (ah (ah (aa (vB false) (af ?_))))))))))
       obtain rfl:=ae h_28
       exact cu
     ·rintro ⟨⟩ _ sl_ H_ hp_ hq_
      refine aO _ hp_ hq_ ?_
      rcases ak hc_23 with⟨hc_32,hc_23⟩|⟨hc_32,hc_23⟩
      ·refine aA rfl hc_32 (ax (aQ (av (aa (vI s_22) (aa (vI (w64 (s_22+1))) (aa (vI (w64 (s_22+1))) (af ?_)))))))
       obtain rfl:=ae hc_23
       exact aY (k_17,(w64 (s_22+1))) hL_24 (ls_ _) rfl (aK rfl)
      ·refine ay rfl hc_32 (aX ?_)
       obtain rfl:=ae hc_23
       obtain rfl:=ae hL_24
       exact aV (s_22) rfl rfl (aK rfl)
   ·rintro s_22 ho_ sl_ H_ hp_ hq_
    subst ho_
    refine aO _ hp_ hq_ (au (aj (aa (vI s_22) (aa (vI s_22) (af ?_)))))
    obtain ⟨o_43,hj_44,hc_12⟩:=bind_some hc_12
    obtain ⟨nq_71,hj_44⟩:=cK hj_44
    refine sV (σ:=(List Run)×Int×Int) (N:=Nm) (λp=>(λ(s_38:(List Run)×Int×Int) (n_40:Nm)=>([(1,(vL Run.enc m_2)),(5,(gV n_40 2 s_38.1)),(6,(vI s_22)),(8,(.ref n_16 0 0)),(10,(vL Run.enc l_1)),(11,(vI (l_1.length:Int))),(12,(vI (k_3:Int)))]:SL_)) p.1 p.2) (λp=>(λ(s_38:(List Run)×Int×Int) (n_40:Nm)=>([(n_40,gB 2 Run.enc s_38.1),(n_16,some (.cells 2 [(vI s_38.2.2),(vI x_5.f_to)]))]:Hp)) p.1 p.2) (λ(k_33:Nat)=>(λp=>(λ(s_38:(List Run)×Int×Int) (n_40:Nm)=>([(1,(vL Run.enc m_2)),(5,(gV n_40 2 s_38.1)),(6,(vI s_22)),(8,(.ref n_16 0 0)),(9,(vI s_38.2.1)),(10,(vL Run.enc l_1)),(11,(vI (l_1.length:Int))),(12,(vI (k_3:Int)))]:SL_)) p.1 p.2)) (λs=>o8 m_2 x_5 s) o_43 nq_71 ((s_8.1,s_22,x_5.f_from),n_11) hj_44 rfl (aK rfl) ?_ ?_
    ·rintro ⟨k_33,s_38,n_40⟩ hL_42
     dsimp only at hL_42
     cases k_33 with
     | zero=>cases hL_42
     | succ k_33 =>
      obtain ⟨c_,hc_41,hL_42⟩:=bind_some hL_42
      unfold o8 at hc_41
      refine au (au ?_)
      obtain ⟨v_45,h_46,hc_41⟩:=bind_some hc_41
      refine aS [(1,(vL Run.enc m_2)),(5,(gV n_40 2 s_38.1)),(6,(vI s_22)),(8,(.ref n_16 0 0)),(9,(vI s_38.2.1)),(10,(vL Run.enc l_1)),(11,(vI (l_1.length:Int))),(12,(vI (k_3:Int))),(46,(vB v_45))] [(n_40,gB 2 Run.enc s_38.1),(n_16,some (.cells 2 [(vI s_38.2.2),(vI x_5.f_to)]))] ?_ ?_
      ·refine bE (aa (vI s_38.2.1) (aa (vL Run.enc m_2) (dx zw rfl wz (aa (vB (decide (s_38.2.1<(m_2.length:Int)))) ?_))))
       rcases ak h_46 with⟨hc_47,h_46⟩|⟨hc_47,h_46⟩
       ·refine aI rfl hc_47 wz (aM (vL Run.enc m_2) wa rfl (aM (vI s_38.2.1) wa rfl ?_))
        obtain ⟨y_48,hy_49,h_46⟩:=bind_some h_46
        refine dW nu rfl rfl hy_49 rfl wa (kP mr rfl [.int .i64 y_48.f_from,.int .i64 y_48.f_to] rfl rfl wa (bK sz3 ag3 rfl (vI y_48.f_from) rfl wa (aJ rU rfl 1 rfl wa (aB 11 1 (.inr (by kernel_rfl)) (λ_ _ ag=>trivial) sz3 ag3 rfl rfl (vI x_5.f_to) rfl wa (aM (vB (decide (y_48.f_from<x_5.f_to))) wa rfl (aa (vB (decide (y_48.f_from<x_5.f_to))) (af ?_)))))))
        obtain rfl:=ae h_46
        exact cu
       ·refine aI rfl hc_47 wz (ah (ah (ah (ah (ah (ah (ah (ah (aa (vB false) (af ?_))))))))))
        obtain rfl:=ae h_46
        exact cu
      ·rintro ⟨⟩ _ sl_ H_ hp_ hq_
       refine aO _ hp_ hq_ ?_
       rcases ak hc_41 with⟨hc_50,hc_41⟩|⟨hc_50,hc_41⟩
       ·refine aA rfl hc_50 (ax (au (aQ (au (au (bE (aa (vL Run.enc m_2) (aa (vI s_38.2.1) ?_))))))))
        obtain ⟨y_51,hy_52,hc_41⟩:=bind_some hc_41
        refine dW nu rfl rfl hy_52 rfl wz (kP mr rfl [.int .i64 y_51.f_from,.int .i64 y_51.f_to] rfl rfl wz (bK sz3 ag3 rfl (vI y_51.f_from) rfl wz (aJ mr rfl 0 rfl wz (aB 6 1 (.inr (by kernel_rfl)) (λ_ _ ag=>trivial) sz3 ag3 rfl rfl (vI s_38.2.2) rfl wz (aa (vB (decide (y_51.f_from>s_38.2.2))) (af ?_))))))
        obtain ⟨v_53,h_54,hc_41⟩:=bind_some hc_41
        refine jA (β:=Nm) (λ(n_55:Nm)=>([(1,(vL Run.enc m_2)),(5,(gV n_55 2 v_53)),(6,(vI s_22)),(8,(.ref n_16 0 0)),(9,(vI s_38.2.1)),(10,(vL Run.enc l_1)),(11,(vI (l_1.length:Int))),(12,(vI (k_3:Int)))]:SL_)) (λ(n_55:Nm)=>([(n_55,gB 2 Run.enc v_53),(n_16,some (.cells 2 [(vI s_38.2.2),(vI x_5.f_to)]))]:Hp)) (λ_=>True) ?_ ?_
        ·rcases ak h_54 with⟨hc_56,h_54⟩|⟨hc_56,h_54⟩
         ·refine aA rfl hc_56 (bE (aa (gV n_40 2 s_38.1) (aJ mr rfl 0 rfl wz (aB 2 1 (.inr (by kernel_rfl)) (λ_ _ ag=>trivial) sz3 ag3 rfl rfl (vI s_38.2.2) rfl wz (aa (vL Run.enc m_2) (aa (vI s_38.2.1) ?_))))))
          obtain ⟨y_57,hy_58,h_54⟩:=bind_some h_54
          refine dW nu rfl rfl hy_58 rfl wz (kP mr rfl [.int .i64 y_57.f_from,.int .i64 y_57.f_to] rfl rfl wz (bK sz3 ag3 rfl (vI y_57.f_from) rfl wz (aM (.d (.agg (Run.enc (⟨s_38.2.2,y_57.f_from⟩:Run)))) wz (by kernel_rfl) (eQ (([(⟨s_38.2.2,y_57.f_from⟩:Run)]:List Run).map Run.enc) nu NC rfl rfl rfl rfl rfl wz ?_))))
          obtain ⟨a_59,hz_60,h_54⟩:=bind_some h_54
          refine jh 10 (.inr (by kernel_rfl)) (λ_ _ ag=>⟨.inr (.inr (by kernel_rfl)),trivial⟩) (i:=0) Dq Dq oL LG rfl (by decide) NT (by decide) (λ_=>rfl) rfl rfl rfl hz_60 wz (λn_61=>aa (gV n_61 2 a_59) (af ?_))
          obtain rfl:=ae h_54
          exact aV n_61 trivial rfl (aK rfl)
         ·refine ay rfl hc_56 (ax ?_)
          obtain rfl:=ae h_54
          exact aV n_40 trivial rfl (aK rfl)
        ·rintro n_55 _ sl_ H_ hp_ hq_
         refine aO _ hp_ hq_ (bE (aJ mr rfl 0 rfl wz (aB 1 1 (.inr (by kernel_rfl)) (λ_ _ ag=>trivial) sz3 ag3 rfl rfl (vI s_38.2.2) rfl wz (aa (vL Run.enc m_2) (aa (vI s_38.2.1) ?_)))))
         obtain ⟨y_62,hy_63,hc_41⟩:=bind_some hc_41
         refine dW nu rfl rfl hy_63 rfl wz (kP rU rfl [.int .i64 y_62.f_to] rfl rfl wz (bK sz3 ag3 rfl (vI y_62.f_to) rfl wz (ni (vI (fZ s_38.2.2 y_62.f_to)) rfl (.inr rfl) wz (aJ mr rfl 0 rfl wz (fA 9 (.inr (by kernel_rfl)) (λ_ _ ag=>⟨.inr (.inr (by kernel_rfl)),trivial⟩) 1 sz3 rfl rfl [(vI (fZ s_38.2.2 y_62.f_to)),(vI x_5.f_to)] rfl wz (af (av (aa (vI s_38.2.1) (aa (vI (w64 (s_38.2.1+1))) (aa (vI (w64 (s_38.2.1+1))) (af ?_)))))))))))
         obtain rfl:=ae hc_41
         exact aY (k_33,(v_53,(w64 (s_38.2.1+1)),(fZ s_38.2.2 y_62.f_to)),n_55) hL_42 (ls_ _) rfl (aK rfl)
       ·refine ay rfl hc_50 (aX ?_)
        obtain rfl:=ae hc_41
        obtain rfl:=ae hL_42
        exact aV ((s_38.1,s_38.2.1,s_38.2.2),n_40) rfl rfl (aK rfl)
    ·rintro ⟨s_38,n_40⟩ ho_ sl_ H_ hp_ hq_
     subst ho_
     refine aO _ hp_ hq_ (aj (aJ mr rfl 0 rfl wz (aB 0 1 il ft sz3 ag3 rfl rfl (vI s_38.2.2) rfl wz (aJ rU rfl 1 rfl wz (aB 0 1 il ft sz3 ag3 rfl rfl (vI x_5.f_to) rfl wz (aa (vB (decide (s_38.2.2<x_5.f_to))) (af ?_)))))))
     obtain ⟨v_64,h_65,hc_12⟩:=bind_some hc_12
     refine jA (β:=Nm) (λ(n_66:Nm)=>([(1,(vL Run.enc m_2)),(5,(gV n_66 2 v_64)),(6,(vI s_22)),(10,(vL Run.enc l_1)),(11,(vI (l_1.length:Int))),(12,(vI (k_3:Int)))]:SL_)) (λ(n_66:Nm)=>([(n_66,gB 2 Run.enc v_64),(n_16,some (.cells 2 [(vI s_38.2.2),(vI x_5.f_to)]))]:Hp)) (λ_=>True) ?_ ?_
     ·rcases ak h_65 with⟨hc_67,h_65⟩|⟨hc_67,h_65⟩
      ·refine aA rfl hc_67 (av (aa (gV n_40 2 s_38.1) (aB 0 1 il ft oL yj rfl rfl (.d (.agg (Run.enc (⟨s_38.2.2,x_5.f_to⟩:Run)))) rfl wz (eQ (([(⟨s_38.2.2,x_5.f_to⟩:Run)]:List Run).map Run.enc) nu NC rfl rfl rfl rfl rfl wz ?_))))
       obtain ⟨a_68,hz_69,h_65⟩:=bind_some h_65
       refine jh 0 il ft (i:=0) Dq Dq oL LG rfl (by decide) NT (by decide) (λ_=>rfl) rfl rfl rfl hz_69 wz (λn_70=>aa (gV n_70 2 a_68) (af ?_))
       obtain rfl:=ae h_65
       exact aV n_70 trivial rfl (aK rfl)
      ·refine ay rfl hc_67 (ax ?_)
       obtain rfl:=ae h_65
       exact aV n_40 trivial rfl (aK rfl)
     ·rintro n_66 _ sl_ H_ hp_ hq_
      refine aO _ hp_ hq_ (av (fQ (bN hD_6 hn_7) wz rfl (aa (vI ((k_3+1:Nat):Int)) (af ?_))))
      obtain rfl:=ae hc_12
      exact aY (k_3+1,l_4,(v_64,s_22),n_66) ⟨hL_13,aW hD_6⟩ (ls_ _) rfl (aK rfl)
 ·rintro ⟨s_8,n_11⟩ ho_ sl_ H_ hp_ hq_
  subst ho_
  refine aO _ hp_ hq_ (aj (aa (gV n_11 2 s_8.1) (aa (gV n_11 2 s_8.1) (af (fB 0 rfl (bX 4 0 rfl rfl (bX 5 0 rfl rfl (bX 87 0 rfl rfl ?_))))))))
  obtain rfl:=ae hF
  exact aH (aN [(vL Run.enc s_8.1)] ⟨rfl,trivial⟩)
theorem nK {s1_1:(List Run)} {s2_2:(List Run)} {r:Bool} (hF:eP s1_1 s2_2=some r) :
  FnM Tryz.prog 101 [(vL Run.enc s1_1),(vL Run.enc s2_2)] [] (vB r) []:=by
 refine FnM.of_wH ⟨Tryz.prog,26,[],[]⟩ rfl Tryz.func101 rfl rfl (lb_ rfl) (by kernel_rfl) ?_
 unfold eP at hF
 refine aj (aa (vB false) (af (au (aj (aa (vL Run.enc s1_1) (dx zw rfl wz (aa (vL Run.enc s2_2) (dx zw rfl wz (aa (vB ((s1_1.length:Int) != (s2_2.length:Int))) (af ?_))))))))))
 rcases ak hF with⟨hc_3,hF⟩|⟨hc_3,hF⟩
 ·refine aA rfl hc_3 (aj (aa (vB false) (af ?_)))
  obtain rfl:=ae hF
  exact aH (aN [(vB false)] ⟨rfl,trivial⟩)
 ·refine ay rfl hc_3 (ax (au (aj (aa (vL Run.enc s1_1) (dx zw rfl wz (aa (vI 0) (af ?_)))))))
  obtain ⟨o_12,hj_13,hF⟩:=bind_some hF
  obtain ⟨hn_8,hj_13⟩:=bI hj_13
  refine fH (λ(s_9:Unit)=>[]) (λ(s_9:Unit)=>[]) (λ(k_4:Nat)=>(λ(s_9:Unit)=>[(0,(vL Run.enc s1_1)),(1,(vL Run.enc s2_2)),(12,(vI (s1_1.length:Int))),(13,(vI (k_4:Int)))])) (λk x s=>fU s2_2 k x s) o_12 s1_1 () hj_13 rfl (aK rfl) ?_ ?_
  ·rintro ⟨k_4,l_5,s_9⟩ ⟨hL_11,hD_7⟩
   dsimp only at hL_11 hD_7
   cases l_5 with
   | nil =>
    obtain rfl:=ae hL_11
    refine aj (aa (vB (decide ((k_4:Int)<(s1_1.length:Int)))) (af ?_))
    refine au (ay rfl (drop_nil hD_7) (aX ?_))
    exact aV (s_9) rfl rfl (aK rfl)
   | cons x_6 l_5 =>
    obtain ⟨c_,hc_10,hL_11⟩:=bind_some hL_11
    refine aj (aa (vB (decide ((k_4:Int)<(s1_1.length:Int)))) (af ?_))
    refine au (aA rfl (bO hD_7) (ax ?_))
    unfold fU at hc_10
    refine au (aQ (aj (aa (vI (k_4:Int)) (aa (vI (k_4:Int)) (af (au (bE (aa (vL Run.enc s1_1) (aa (vI (k_4:Int)) (dW nu rfl rfl (bU hD_7) rfl wz (bK oL yj rfl (.d (.agg (Run.enc x_6))) rfl wz (aa (vL Run.enc s2_2) (aa (vI (k_4:Int)) ?_)))))))))))))
    obtain ⟨y_14,hy_15,hc_10⟩:=bind_some hc_10
    refine dW nu rfl rfl hy_15 rfl wz (bK oL yj rfl (.d (.agg (Run.enc y_14))) rfl wz (aM (vB (!((x_6.f_from==y_14.f_from)&&((x_6.f_to==y_14.f_to)&&true)))) wz (by kernel_rfl) (af ?_)))
    rcases ak hc_10 with⟨hc_16,hc_10⟩|⟨hc_16,hc_10⟩
    ·refine aA rfl hc_16 (aj (aa (vB false) (af ?_)))
     obtain rfl:=ae hc_10
     obtain rfl:=ae hL_11
     obtain rfl:=ae hF
     exact aH (aN [(vB false)] ⟨rfl,trivial⟩)
    ·refine ay rfl hc_16 (ax (av (fQ (bN hD_7 hn_8) wz rfl (aa (vI ((k_4+1:Nat):Int)) (af ?_)))))
     obtain rfl:=ae hc_10
     exact aY (k_4+1,l_5,()) ⟨hL_11,aW hD_7⟩ (ls_ _) rfl (aK rfl)
  ·rintro s_9 ho_ sl_ H_ hp_ hq_
   subst ho_
   refine aO _ hp_ hq_ (aj (aa (vB true) (af ?_)))
   obtain rfl:=ae hF
   exact aH (aN [(vB true)] ⟨rfl,trivial⟩)
theorem BL {l_1:(List Rect)} {m_2:(List Rect)} {r:(List Rect)} (hF:nT l_1 m_2=some r) :
  FnM Tryz.prog 66 [(vL Rect.enc l_1),(vL Rect.enc m_2)] [] (vL Rect.enc r) []:=by
 refine FnM.of_wH ⟨Tryz.prog,88,[],[]⟩ rfl Tryz.func66 rfl rfl (lb_ rfl) (by kernel_rfl) ?_
 unfold nT at hF
 refine aj (aa .nil (af (aj (aa .nil (af (au (aj (aa (vL Rect.enc l_1) (aa (vL Rect.enc m_2) (eQ (([l_1,m_2]:List (List Rect)).map (eL Rect.enc)) QI ez209 rfl rfl rfl rfl rfl wz ?_))))))))))
 obtain ⟨r_3,hr_4,hF⟩:=bind_some hF
 refine aC (oD hr_4) rfl hb98 rfl rfl rfl rfl wz (dx JG rfl wz (aa (vI 0) (af (jH (λn_11 => ?_)))))
 obtain ⟨o_16,hj_17,hF⟩:=bind_some hF
 obtain ⟨hn_9,hj_17⟩:=bI hj_17
 refine iw (σ:=(List Int)) (N:=Nm) (λp=>(λ(s_10:List Int) (n_13:Nm)=>([(0,(vL Rect.enc l_1)),(1,(vL Rect.enc m_2)),(5,(gV n_13 1 s_10))]:SL_)) p.1 p.2) (λp=>(λ(s_10:List Int) (n_13:Nm)=>([(n_13,gB 1 eI s_10)]:Hp)) p.1 p.2) (λ(k_5:Nat)=>(λp=>(λ(s_10:List Int) (n_13:Nm)=>([(0,(vL Rect.enc l_1)),(1,(vL Rect.enc m_2)),(5,(gV n_13 1 s_10)),(19,(vL Rect.enc r_3)),(20,(vI (r_3.length:Int))),(21,(vI (k_5:Int)))]:SL_)) p.1 p.2)) (λk x s=>nC k x s) o_16 r_3 (([]:List Int),n_11) hj_17 rfl (aK rfl) ?_ ?_
 ·rintro ⟨k_5,l_6,s_10,n_13⟩ ⟨hL_15,hD_8⟩
  dsimp only at hL_15 hD_8
  cases l_6 with
  | nil =>
   obtain rfl:=ae hL_15
   refine aj (aa (vB (decide ((k_5:Int)<(r_3.length:Int)))) (af ?_))
   refine au (ay rfl (drop_nil hD_8) (aX ?_))
   exact aV (s_10,n_13) rfl rfl (aK rfl)
  | cons x_7 l_6 =>
   obtain ⟨c_,hc_14,hL_15⟩:=bind_some hL_15
   refine aj (aa (vB (decide ((k_5:Int)<(r_3.length:Int)))) (af ?_))
   refine au (aA rfl (bO hD_8) (ax ?_))
   unfold nC at hc_14
   refine au (aQ (aj (dW O9 rfl rfl (bU hD_8) rfl wz (bK CF QF rfl (.d (.agg (Rect.enc x_7))) rfl wz (dC 0 (.inl rfl) z96 rfl wz (λn_18=>fA 0 il ft 1 CF rfl rfl (Rect.v x_7) rfl wz (af (av (aa (gV n_13 1 s_10) (aJ BM rfl 1 rfl wz (aB 0 1 il ft sz3 ag3 rfl rfl (vI x_7.Y) rfl wz (aJ BM rfl 1 rfl wz (aB 0 1 il ft sz3 ag3 rfl rfl (vI x_7.Y) rfl wz (aJ IZ rfl 3 rfl wz (aB 0 1 il ft sz3 ag3 rfl rfl (vI x_7.H) rfl wz (aa (vI (w64 (x_7.Y+x_7.H))) (eQ (([x_7.Y,(w64 (x_7.Y+x_7.H))]:List Int).map eI) lC wJ rfl rfl rfl rfl rfl wz ?_)))))))))))))))))
   obtain ⟨a_19,hz_20,hc_14⟩:=bind_some hc_14
   refine jh 0 il ft (i:=0) Cc Cc sz3 z3 rfl (by decide) by3 (by decide) (λ_=>rfl) rfl rfl rfl hz_20 wz (λn_21=>aa (gV n_21 1 a_19) (af (av (fQ (bN hD_8 hn_9) wz rfl (aa (vI ((k_5+1:Nat):Int)) (af ?_))))))
   obtain rfl:=ae hc_14
   exact aY (k_5+1,l_6,a_19,n_21) ⟨hL_15,aW hD_8⟩ (ls_ _) rfl (aK rfl)
 ·rintro ⟨s_10,n_13⟩ ho_ sl_ H_ hp_ hq_
  subst ho_
  refine aO _ hp_ hq_ (aj (aa (gV n_13 1 s_10) ?_))
  obtain ⟨r_22,hr_23,hF⟩:=bind_some hF
  obtain ⟨_,hs_24,hF⟩:=bind_some hF
  replace hs_24:=lQ hs_24
  refine lL 0 [] 0 0 il ft (ko hr_23) rfl hb29 rfl rfl rfl (by kernel_rfl) rfl (.inl rfl) rfl (by kernel_rfl) (by kernel_rfl) (by kernel_rfl) (by kernel_rfl) rfl (by decide) (by kernel_rfl) nU (vD hs_24) wz ([(n_13,gB 1 eI r_22)]:Hp) (by kernel_rfl) (dU (v':=(gV n_13 1 r_22)) 36 rfl (jm hs_24.symm) (dU (v':=(gV n_13 1 r_22)) 5 rfl (jm hs_24.symm) (af (aj (aa (gV n_13 1 r_22) ?_)))))
  obtain ⟨r_25,hr_26,hF⟩:=bind_some hF
  refine lL 0 [] 0 0 il ft (lW hr_26) rfl hb77 rfl rfl rfl (by kernel_rfl) rfl (.inl rfl) rfl (by kernel_rfl) (by kernel_rfl) (by kernel_rfl) (by kernel_rfl) rfl (by decide) (by kernel_rfl) Br (λ_=>rfl) wz ([(n_13,none)]:Hp) (by kernel_rfl) (aa (vL eI r_25) (af (aj (aa .nil (af (aj (aa .nil (af (aj (aa (vI 0) (af (au (aj (aa (vL eI r_25) (dx w9 rfl wz (aa (vI 0) (af (Oh Run.enc 9 rfl (jH (λn_33 => ?_))))))))))))))))))))
  obtain ⟨o_38,hj_39,hF⟩:=bind_some hF
  obtain ⟨hn_31,hj_39⟩:=bI hj_39
  refine iw (σ:=(List Rect)×(List Run)×Int) (N:=Nm) (λp=>(λ(s_32:(List Rect)×(List Run)×Int) (n_35:Nm)=>([(8,(gV n_35 4 s_32.1))]:SL_)) p.1 p.2) (λp=>(λ(s_32:(List Rect)×(List Run)×Int) (n_35:Nm)=>([(n_13,none),(n_35,gB 4 Rect.enc s_32.1)]:Hp)) p.1 p.2) (λ(k_27:Nat)=>(λp=>(λ(s_32:(List Rect)×(List Run)×Int) (n_35:Nm)=>([(0,(vL Rect.enc l_1)),(1,(vL Rect.enc m_2)),(5,(vL eI r_25)),(8,(gV n_35 4 s_32.1)),(9,(vL Run.enc s_32.2.1)),(10,(vI s_32.2.2)),(40,(vL eI r_25)),(41,(vI (r_25.length:Int))),(42,(vI (k_27:Int)))]:SL_)) p.1 p.2)) (λk x s=>lc r_25 l_1 m_2 k x s) o_38 r_25 ((([]:List Rect),([]:List Run),0),n_33) hj_39 rfl (aK rfl) ?_ ?_
  ·rintro ⟨k_27,l_28,s_32,n_35⟩ ⟨hL_37,hD_30⟩
   dsimp only at hL_37 hD_30
   cases l_28 with
   | nil =>
    obtain rfl:=ae hL_37
    refine aj (aa (vB (decide ((k_27:Int)<(r_25.length:Int)))) (af ?_))
    refine au (ay rfl (drop_nil hD_30) (aX ?_))
    exact aV (s_32,n_35) rfl rfl (aK rfl)
   | cons x_29 l_28 =>
    obtain ⟨c_,hc_36,hL_37⟩:=bind_some hL_37
    refine aj (aa (vB (decide ((k_27:Int)<(r_25.length:Int)))) (af ?_))
    refine au (aA rfl (bO hD_30) (ax ?_))
    unfold lc at hc_36
    refine au (aQ (aj (aa (vI (k_27:Int)) (dW lC rfl rfl (bU hD_30) rfl wz (bK sz3 ag3 rfl (vI x_29) rfl wz (aa (vI (k_27:Int)) (aa (vI x_29) (af (aj (aa .nil (af (au (aj (aa (vI (k_27:Int)) (aa (vI (w64 ((k_27:Int)+1))) (aa (vL eI r_25) (dx w9 rfl wz (aa (vB (decide ((w64 ((k_27:Int)+1))<(r_25.length:Int)))) (af (Oh Run.enc 13 rfl ?_))))))))))))))))))))
    obtain ⟨v_42,h_43,hc_36⟩:=bind_some hc_36
    refine aS [(0,(vL Rect.enc l_1)),(1,(vL Rect.enc m_2)),(5,(vL eI r_25)),(8,(gV n_35 4 s_32.1)),(9,(vL Run.enc s_32.2.1)),(10,(vI s_32.2.2)),(12,(vI x_29)),(13,(vL Run.enc v_42)),(40,(vL eI r_25)),(41,(vI (r_25.length:Int))),(42,(vI (k_27:Int)))] [(n_13,none),(n_35,gB 4 Rect.enc s_32.1)] ?_ ?_
    ·rcases ak h_43 with⟨hc_44,h_43⟩|⟨hc_44,h_43⟩
     ·refine aA rfl hc_44 (av (aa (vL Rect.enc l_1) (aa (vI x_29) ?_)))
      obtain ⟨r_45,hr_46,h_43⟩:=bind_some h_43
      refine aC (xU hr_46) rfl hb100 rfl rfl rfl rfl wz (aa (vL Rect.enc m_2) (aa (vI x_29) ?_))
      obtain ⟨r_47,hr_48,h_43⟩:=bind_some h_43
      refine aC (xU hr_48) rfl hb100 rfl rfl rfl rfl wz ?_
      obtain ⟨r_49,hr_50,h_43⟩:=bind_some h_43
      refine aC (ET hr_50) rfl hb99 rfl rfl rfl rfl wz (aa (vL Run.enc r_49) (af ?_))
      obtain rfl:=ae h_43
      exact cu
     ·refine ay rfl hc_44 (ax ?_)
      obtain rfl:=ae h_43
      exact cu
    ·rintro ⟨⟩ _ sl_ H_ hp_ hq_
     refine aO _ hp_ hq_ (au (aj (aa (vL Run.enc s_32.2.1) (aa (vL Run.enc v_42) ?_))))
     obtain ⟨r_51,hr_52,hc_36⟩:=bind_some hc_36
     refine aC (nK hr_52) rfl hb101 rfl rfl rfl rfl wz (af ?_)
     rcases ak hc_36 with⟨hc_53,hc_36⟩|⟨hc_53,hc_36⟩
     ·refine aA rfl hc_53 (aX (av (fQ (bN hD_30 hn_31) wz rfl (aa (vI ((k_27+1:Nat):Int)) (af ?_)))))
      obtain rfl:=ae hc_36
      exact aY (k_27+1,l_28,(s_32.1,s_32.2.1,s_32.2.2),n_35) ⟨hL_37,aW hD_30⟩ (ls_ _) rfl (aK rfl)
     ·refine ay rfl hc_53 (ax (au (aj (aa (vL Run.enc s_32.2.1) (dx zw rfl wz (aa (vI 0) (af ?_)))))))
      obtain ⟨o_64,hj_65,hc_36⟩:=bind_some hc_36
      obtain ⟨hn_58,hj_65⟩:=bI hj_65
      refine iw (σ:=(List Rect)) (N:=Nm) (λp=>(λ(s_59:List Rect) (n_61:Nm)=>([(0,(vL Rect.enc l_1)),(1,(vL Rect.enc m_2)),(5,(vL eI r_25)),(8,(gV n_61 4 s_59)),(12,(vI x_29)),(13,(vL Run.enc v_42)),(40,(vL eI r_25)),(41,(vI (r_25.length:Int))),(42,(vI (k_27:Int)))]:SL_)) p.1 p.2) (λp=>(λ(s_59:List Rect) (n_61:Nm)=>([(n_13,none),(n_61,gB 4 Rect.enc s_59)]:Hp)) p.1 p.2) (λ(k_54:Nat)=>(λp=>(λ(s_59:List Rect) (n_61:Nm)=>([(0,(vL Rect.enc l_1)),(1,(vL Rect.enc m_2)),(5,(vL eI r_25)),(8,(gV n_61 4 s_59)),(10,(vI s_32.2.2)),(12,(vI x_29)),(13,(vL Run.enc v_42)),(40,(vL eI r_25)),(41,(vI (r_25.length:Int))),(42,(vI (k_27:Int))),(62,(vL Run.enc s_32.2.1)),(63,(vI (s_32.2.1.length:Int))),(64,(vI (k_54:Int)))]:SL_)) p.1 p.2)) (λk x s=>nA s_32 x_29 k x s) o_64 s_32.2.1 (s_32.1,n_35) hj_65 rfl (aK rfl) ?_ ?_
      ·rintro ⟨k_54,l_55,s_59,n_61⟩ ⟨hL_63,hD_57⟩
       dsimp only at hL_63 hD_57
       cases l_55 with
       | nil =>
        obtain rfl:=ae hL_63
        refine aj (aa (vB (decide ((k_54:Int)<(s_32.2.1.length:Int)))) (af ?_))
        refine au (ay rfl (drop_nil hD_57) (aX ?_))
        exact aV (s_59,n_61) rfl rfl (aK rfl)
       | cons x_56 l_55 =>
        obtain ⟨c_,hc_62,hL_63⟩:=bind_some hL_63
        refine aj (aa (vB (decide ((k_54:Int)<(s_32.2.1.length:Int)))) (af ?_))
        refine au (aA rfl (bO hD_57) (ax ?_))
        unfold nA at hc_62
        refine au (aQ (aj (dW nu rfl rfl (bU hD_57) rfl wz (bK oL yj rfl (.d (.agg (Run.enc x_56))) rfl wz (dC 0 (.inl rfl) LG rfl wz (λn_66=>fA 0 il ft 2 oL rfl rfl [(vI x_56.f_from),(vI x_56.f_to)] rfl wz (af (av (aa (gV n_61 4 s_59) (aJ mr rfl 0 rfl wz (aB 0 2 il ft sz3 ag3 rfl rfl (vI x_56.f_from) rfl wz (aa (vI s_32.2.2) (aJ rU rfl 1 rfl wz (aB 0 2 il ft sz3 ag3 rfl rfl (vI x_56.f_to) rfl wz (aJ mr rfl 0 rfl wz (aB 0 2 il ft sz3 ag3 rfl rfl (vI x_56.f_from) rfl wz (aa (vI (w64 (x_56.f_to-x_56.f_from))) (aa (vI x_29) (aa (vI s_32.2.2) (aa (vI (w64 (x_29-s_32.2.2))) (aM (.d (.agg (Rect.enc (⟨x_56.f_from,s_32.2.2,(w64 (x_56.f_to-x_56.f_from)),(w64 (x_29-s_32.2.2))⟩:Rect)))) wz (by kernel_rfl) (eQ (([(⟨x_56.f_from,s_32.2.2,(w64 (x_56.f_to-x_56.f_from)),(w64 (x_29-s_32.2.2))⟩:Rect)]:List Rect).map Rect.enc) O9 ez97 rfl rfl rfl rfl rfl wz ?_))))))))))))))))))))))
        obtain ⟨a_67,hz_68,hc_62⟩:=bind_some hc_62
        refine jh 0 il ft (i:=1) MP MP CF z96 rfl (by decide) by96 (by decide) (λ_=>rfl) rfl rfl rfl hz_68 wz (λn_69=>aa (gV n_69 4 a_67) (af (av (fQ (bN hD_57 hn_58) wz rfl (aa (vI ((k_54+1:Nat):Int)) (af ?_))))))
        obtain rfl:=ae hc_62
        exact aY (k_54+1,l_55,a_67,n_69) ⟨hL_63,aW hD_57⟩ (ls_ _) rfl (aK rfl)
      ·rintro ⟨s_59,n_61⟩ ho_ sl_ H_ hp_ hq_
       subst ho_
       refine aO _ hp_ hq_ (av (aa (vL Run.enc v_42) (aa (vI x_29) (aa (vL Run.enc v_42) (aa (vI x_29) (af (av (fQ (bN hD_30 hn_31) wz rfl (aa (vI ((k_27+1:Nat):Int)) (af ?_))))))))))
       obtain rfl:=ae hc_36
       exact aY (k_27+1,l_28,(s_59,v_42,x_29),n_61) ⟨hL_37,aW hD_30⟩ (ls_ _) rfl (aK rfl)
  ·rintro ⟨s_32,n_35⟩ ho_ sl_ H_ hp_ hq_
   subst ho_
   refine aO _ hp_ hq_ (aj (aa (gV n_35 4 s_32.1) (aa (gV n_35 4 s_32.1) (af (fB 1 rfl (bX 4 1 rfl rfl (bX 8 1 rfl rfl (bX 87 1 rfl rfl ?_))))))))
   obtain rfl:=ae hF
   exact aH (aN [(vL Rect.enc s_32.1)] ⟨rfl,trivial⟩)
theorem Em {l_1:(List Rect)} {r:Int} (hF:uj l_1=some r) :
  FnM Tryz.prog 65 [(vL Rect.enc l_1)] [] (vI r) []:=by
 refine FnM.of_wH ⟨Tryz.prog,21,[],[]⟩ rfl Tryz.func65 rfl rfl (lb_ rfl) (by kernel_rfl) ?_
 unfold uj at hF
 refine aj (aa (vI 0) (af (aj (aa (vI 0) (af (au (aj (aa (vL Rect.enc l_1) (dx JG rfl wz (aa (vI 0) (af ?_)))))))))))
 obtain ⟨o_10,hj_11,hF⟩:=bind_some hF
 obtain ⟨hn_6,hj_11⟩:=bI hj_11
 refine fH (λ(s_7:Int)=>[(3,(vI s_7))]) (λ(s_7:Int)=>[]) (λ(k_2:Nat)=>(λ(s_7:Int)=>[(3,(vI s_7)),(6,(vL Rect.enc l_1)),(7,(vI (l_1.length:Int))),(8,(vI (k_2:Int)))])) (λk x s=>tH k x s) o_10 l_1 0 hj_11 rfl (aK rfl) ?_ ?_
 ·rintro ⟨k_2,l_3,s_7⟩ ⟨hL_9,hD_5⟩
  dsimp only at hL_9 hD_5
  cases l_3 with
  | nil =>
   obtain rfl:=ae hL_9
   refine aj (aa (vB (decide ((k_2:Int)<(l_1.length:Int)))) (af ?_))
   refine au (ay rfl (drop_nil hD_5) (aX ?_))
   exact aV (s_7) rfl rfl (aK rfl)
  | cons x_4 l_3 =>
   obtain ⟨c_,hc_8,hL_9⟩:=bind_some hL_9
   refine aj (aa (vB (decide ((k_2:Int)<(l_1.length:Int)))) (af ?_))
   refine au (aA rfl (bO hD_5) (ax ?_))
   unfold tH at hc_8
   refine au (aQ (aj (dW O9 rfl rfl (bU hD_5) rfl wz (bK CF QF rfl (.d (.agg (Rect.enc x_4))) rfl wz (dC 0 (.inl rfl) z96 rfl wz (λn_12=>fA 0 il ft 0 CF rfl rfl (Rect.v x_4) rfl wz (af (av (aa (vI s_7) (aJ L6 rfl 2 rfl wz (aB 0 0 il ft sz3 ag3 rfl rfl (vI x_4.W) rfl wz (aJ IZ rfl 3 rfl wz (aB 0 0 il ft sz3 ag3 rfl rfl (vI x_4.H) rfl wz (aa (vI (w64 (x_4.W*x_4.H))) (aa (vI (w64 (s_7+(w64 (x_4.W*x_4.H))))) (aa (vI (w64 (s_7+(w64 (x_4.W*x_4.H))))) (af (av (fQ (bN hD_5 hn_6) wz rfl (aa (vI ((k_2+1:Nat):Int)) (af ?_)))))))))))))))))))))
   obtain rfl:=ae hc_8
   exact aY (k_2+1,l_3,(w64 (s_7+(w64 (x_4.W*x_4.H))))) ⟨hL_9,aW hD_5⟩ (ls_ _) rfl (aK rfl)
 ·rintro s_7 ho_ sl_ H_ hp_ hq_
  subst ho_
  refine aO _ hp_ hq_ (aj (aa (vI s_7) (aa (vI s_7) (af ?_))))
  obtain rfl:=ae hF
  exact aH (aN [(vI s_7)] ⟨rfl,trivial⟩)
theorem Fq {l_1:(List Rect)} {r:Int×Int} (hF:qF l_1=some r) :
  FnM Tryz.prog 35 [(vL Rect.enc l_1)] [] (.tup [(vI r.1),(vI r.2)]) []:=by
 refine FnM.of_wH ⟨Tryz.prog,13,[],[]⟩ rfl Tryz.func35 rfl rfl (lb_ rfl) (by kernel_rfl) ?_
 unfold qF at hF
 refine aj (aa (vI 0) (aa (vI 0) (af (au (aj (aa (vL Rect.enc l_1) ?_))))))
 obtain ⟨r_2,hr_3,hF⟩:=bind_some hF
 refine aC (yf hr_3) rfl hb64 rfl rfl rfl rfl wz (aa (vI r_2) (af (aj (aa (vI r_2) (aa (vB (r_2 != 0)) (af ?_))))))
 rcases ak hF with⟨hc_4,hF⟩|⟨hc_4,hF⟩
 ·refine aA rfl hc_4 (aj (aa (vI r_2) (aa (vI 0) (aa (vI r_2) (af ?_)))))
  obtain rfl:=ae hF
  exact aH (aN [(vI 0),(vI r_2)] ⟨rfl,⟨rfl,trivial⟩⟩)
 ·refine ay rfl hc_4 (ax (aj (aa (vL Rect.enc l_1) ?_)))
  obtain ⟨r_5,hr_6,hF⟩:=bind_some hF
  refine aC (BL hr_6) rfl hb66 rfl rfl rfl rfl wz ?_
  obtain ⟨r_7,hr_8,hF⟩:=bind_some hF
  refine aC (Em hr_8) rfl hb65 rfl rfl rfl rfl wz (aa (vI r_7) (aa (vI 0) (af ?_)))
  obtain rfl:=ae hF
  exact aH (aN [(vI r_7),(vI 0)] ⟨rfl,⟨rfl,trivial⟩⟩)
theorem AV {wv_1:Window} {r:Bool} (hF:o5 wv_1=some r) :
  FnM Tryz.prog 102 [(.d (.agg (Window.enc wv_1)))] [] (vB r) []:=by
 refine FnM.of_wH ⟨Tryz.prog,18,[],[]⟩ rfl Tryz.func102 rfl rfl (lb_ rfl) (by kernel_rfl) ?_
 unfold o5 at hF
 refine aj (d9 0 (.inl rfl) [(vI wv_1.From),(vI wv_1.To)] rfl rfl wz (λn_2=>aa (vB false) (af (au ?_))))
 obtain ⟨v_3,h_4,hF⟩:=bind_some hF
 refine aS [(2,(vB v_3))] [(n_2,some (.cells 2 [(vI wv_1.From),(vI wv_1.To)]))] ?_ ?_
 ·refine av (aJ iI rfl 0 rfl wz (aB 0 0 il ft sz3 ag3 rfl rfl (vI wv_1.From) rfl wz (aa (vB (decide (wv_1.From>=0))) ?_)))
  rcases ak h_4 with⟨hc_5,h_4⟩|⟨hc_5,h_4⟩
  ·refine aI rfl hc_5 wz (aJ iI rfl 0 rfl wa (aB 0 0 il ft sz3 ag3 rfl rfl (vI wv_1.From) rfl wa (aJ iK rfl 1 rfl wa (aB 0 0 il ft sz3 ag3 rfl rfl (vI wv_1.To) rfl wa (aM (vB (decide (wv_1.From<wv_1.To))) wa rfl (aa (vB (decide (wv_1.From<wv_1.To))) ?_))))))
   rcases ak h_4 with⟨hc_6,h_4⟩|⟨hc_6,h_4⟩
   ·refine aI rfl hc_6 wz (aJ iK rfl 1 rfl wa (aB 0 0 il ft sz3 ag3 rfl rfl (vI wv_1.To) rfl wa (aM (vB (decide (wv_1.To<=345686400000))) wa rfl (aa (vB (decide (wv_1.To<=345686400000))) (aa (vB (decide (wv_1.To<=345686400000))) (af ?_))))))
    obtain rfl:=ae h_4
    exact cu
   ·refine aI rfl hc_6 wz (ah (ah (ah (aa (vB false) (aa (vB false) (af ?_))))))
    obtain rfl:=ae h_4
    exact cu
  ·refine aI rfl hc_5 wz (ah (ah (ah (ah (ah (aa (vB false) (aa (vB false) (ah (ah (ah (aa (vB false) (aa (vB false) (af ?_)))))))))))))
   obtain rfl:=ae h_4
   exact cu
 ·rintro ⟨⟩ _ sl_ H_ hp_ hq_
  refine aO _ hp_ hq_ ?_
  obtain rfl:=ae hF
  exact aH (aN [(vB v_3)] ⟨rfl,trivial⟩)
theorem xN {l_1:(List ByteArray)} {r:Int} (hF:kD l_1=some r) :
  FnM Tryz.prog 103 [(vL eS l_1)] [] (vI r) []:=by
 refine FnM.of_wH ⟨Tryz.prog,8,[],[]⟩ rfl Tryz.func103 rfl rfl (lb_ rfl) (by kernel_rfl) ?_
 unfold kD at hF
 refine aj (aa (vI 0) (af (au (aj (aa (vL eS l_1) (dx Ka rfl wz (aa (vB (decide ((l_1.length:Int)>20))) (af ?_))))))))
 rcases ak hF with⟨hc_2,hF⟩|⟨hc_2,hF⟩
 ·refine aA rfl hc_2 (aj (aa (vI 2) (af ?_)))
  obtain rfl:=ae hF
  exact aH (aN [(vI 2)] ⟨rfl,trivial⟩)
 ·refine ay rfl hc_2 (ax (aj (aa (vL eS l_1) ?_)))
  obtain ⟨r_3,hr_4,hF⟩:=bind_some hF
  refine aC (su hr_4) rfl hb107 rfl rfl rfl rfl wz (aa (vI r_3) (af ?_))
  obtain rfl:=ae hF
  exact aH (aN [(vI r_3)] ⟨rfl,trivial⟩)
theorem tN {l_1:(List Campaign)} {r:Int} (hF:iT l_1=some r) :
  FnM Tryz.prog 67 [(vL Campaign.enc l_1)] [] (vI r) []:=by
 refine FnM.of_wH ⟨Tryz.prog,73,[],[]⟩ rfl Tryz.func67 rfl rfl (lb_ rfl) (by kernel_rfl) ?_
 unfold iT at hF
 refine aj (aa (vI 0) (af (au (aj (aa (vL Campaign.enc l_1) (dx un130 rfl wz (aa (vB (decide ((l_1.length:Int)>30))) (af ?_))))))))
 rcases ak hF with⟨hc_2,hF⟩|⟨hc_2,hF⟩
 ·refine aA rfl hc_2 (aj (aa (vI 2) (af ?_)))
  obtain rfl:=ae hF
  exact aH (aN [(vI 2)] ⟨rfl,trivial⟩)
 ·refine ay rfl hc_2 (ax (au (aj (aa (vL Campaign.enc l_1) (dx un130 rfl wz (aa (vI 0) (af ?_)))))))
  obtain ⟨o_11,hj_12,hF⟩:=bind_some hF
  obtain ⟨hn_7,hj_12⟩:=bI hj_12
  refine fH (λ(s_8:Unit)=>[]) (λ(s_8:Unit)=>[]) (λ(k_3:Nat)=>(λ(s_8:Unit)=>[(0,(vL Campaign.enc l_1)),(9,(vL Campaign.enc l_1)),(10,(vI (l_1.length:Int))),(11,(vI (k_3:Int)))])) (λk x s=>gm l_1 k x s) o_11 l_1 () hj_12 rfl (aK rfl) ?_ ?_
  ·rintro ⟨k_3,l_4,s_8⟩ ⟨hL_10,hD_6⟩
   dsimp only at hL_10 hD_6
   cases l_4 with
   | nil =>
    obtain rfl:=ae hL_10
    refine aj (aa (vB (decide ((k_3:Int)<(l_1.length:Int)))) (af ?_))
    refine au (ay rfl (drop_nil hD_6) (aX ?_))
    exact aV (s_8) rfl rfl (aK rfl)
   | cons x_5 l_4 =>
    obtain ⟨c_,hc_9,hL_10⟩:=bind_some hL_10
    refine aj (aa (vB (decide ((k_3:Int)<(l_1.length:Int)))) (af ?_))
    refine au (aA rfl (bO hD_6) (ax ?_))
    unfold gm at hc_9
    refine au (aQ (aj (aa (vI (k_3:Int)) (dW PR rfl rfl (bU hD_6) rfl wz (bK Nz Ro rfl (.d (.agg (Campaign.enc x_5))) rfl wz (dC 0 (.inl rfl) z100 rfl wz (λn_13=>aa (vI (k_3:Int)) (fA 0 il ft 0 Nz rfl rfl (Campaign.v x_5) rfl wz (af (au (aQ (au ?_))))))))))))
    obtain ⟨v_14,h_15,hc_9⟩:=bind_some hc_9
    refine aS [(0,(vL Campaign.enc l_1)),(3,(vI (k_3:Int))),(4,(.ref n_13 0 0)),(9,(vL Campaign.enc l_1)),(10,(vI (l_1.length:Int))),(11,(vI (k_3:Int))),(16,(vB v_14))] [(n_13,some (.cells 8 (Campaign.v x_5)))] ?_ ?_
    ·refine av (aJ JM rfl 0 rfl wz (aB 0 0 il ft sz9 ag9 rfl rfl (vS x_5.Key) rfl wz ?_))
     obtain ⟨r_16,hr_17,h_15⟩:=bind_some h_15
     refine aC (fw hr_17) rfl AZ rfl rfl rfl rfl wz (aa (vB (!r_16)) ?_)
     rcases ak h_15 with⟨hc_18,h_15⟩|⟨hc_18,h_15⟩
     ·refine aI rfl hc_18 wz (ah (ah (ah (ah (dA (wn rfl rfl) (dA (wn rfl rfl) (dA (wn rfl rfl) (dA (wn rfl rfl) (ah (aa (vB true) (aa (vB true) (af ?_))))))))))))
      obtain rfl:=ae h_15
      exact cu
     ·refine aI rfl hc_18 wz (aJ NW rfl 1 rfl wa (aB 0 0 il ft sz9 ag9 rfl rfl (vS x_5.Class) rfl wa (aM (vB (sNe x_5.Class (⟨#[]⟩:ByteArray))) wa rfl ?_)))
      rcases ak h_15 with⟨hc_19,h_15⟩|⟨hc_19,h_15⟩
      ·refine aI rfl hc_19 wa (aJ NW rfl 1 rfl wa (aB 0 0 il ft sz9 ag9 rfl rfl (vS x_5.Class) rfl wa ?_))
       obtain ⟨r_20,hr_21,h_15⟩:=bind_some h_15
       refine aC (fw hr_21) rfl AZ rfl rfl rfl rfl wa (aM (vB (!r_20)) wa rfl (aM (vB (!r_20)) wa rfl (aa (vB (!r_20)) (aa (vB (!r_20)) (af ?_)))))
       obtain rfl:=ae h_15
       exact cu
      ·refine aI rfl hc_19 wa (ah (ah (ah (ah (aM (vB false) wa rfl (aa (vB false) (aa (vB false) (af ?_))))))))
       obtain rfl:=ae h_15
       exact cu
    ·rintro ⟨⟩ _ sl_ H_ hp_ hq_
     refine aO _ hp_ hq_ ?_
     rcases ak hc_9 with⟨hc_22,hc_9⟩|⟨hc_22,hc_9⟩
     ·refine aA rfl hc_22 (aj (aa (vI 5) (af ?_)))
      obtain rfl:=ae hc_9
      obtain rfl:=ae hL_10
      obtain rfl:=ae hF
      exact aH (aN [(vI 5)] ⟨rfl,trivial⟩)
     ·refine ay rfl hc_22 (au ?_)
      obtain ⟨v_23,h_24,hc_9⟩:=bind_some hc_9
      refine aS [(0,(vL Campaign.enc l_1)),(4,(.ref n_13 0 0)),(9,(vL Campaign.enc l_1)),(10,(vI (l_1.length:Int))),(11,(vI (k_3:Int))),(32,(vB v_23))] [(n_13,some (.cells 8 (Campaign.v x_5)))] ?_ ?_
      ·refine bE (aa (vI (k_3:Int)) (aa (vB (decide ((k_3:Int)>0))) ?_))
       rcases ak h_24 with⟨hc_25,h_24⟩|⟨hc_25,h_24⟩
       ·refine aI rfl hc_25 wz (aJ JM rfl 0 rfl wa (aB 4 0 (.inr (by kernel_rfl)) (λ_ _ ag=>trivial) sz9 ag9 rfl rfl (vS x_5.Key) rfl wa (aM (vL Campaign.enc l_1) wa rfl (aM (vI (k_3:Int)) wa rfl (aM (vI (w64 ((k_3:Int)-1))) wa rfl ?_)))))
        obtain ⟨y_26,hy_27,h_24⟩:=bind_some h_24
        refine dW PR rfl rfl hy_27 rfl wa (kP JM rfl (Campaign.enc y_26) rfl rfl wa (bK sz9 ag9 rfl (vS y_26.Key) rfl wa (aM (vB (sLe x_5.Key y_26.Key)) wa rfl (aa (vB (sLe x_5.Key y_26.Key)) (aa (vB (sLe x_5.Key y_26.Key)) (af ?_))))))
        obtain rfl:=ae h_24
        exact cu
       ·refine aI rfl hc_25 wz (ah (ah (ah (ah (ah (ah (ah (ah (ah (aa (vB false) (aa (vB false) (af ?_))))))))))))
        obtain rfl:=ae h_24
        exact cu
      ·rintro ⟨⟩ _ sl_ H_ hp_ hq_
       refine aO _ hp_ hq_ ?_
       rcases ak hc_9 with⟨hc_28,hc_9⟩|⟨hc_28,hc_9⟩
       ·refine aA rfl hc_28 (aj (aa (vI 7) (af ?_)))
        obtain rfl:=ae hc_9
        obtain rfl:=ae hL_10
        obtain rfl:=ae hF
        exact aH (aN [(vI 7)] ⟨rfl,trivial⟩)
       ·refine ay rfl hc_28 (au ?_)
        obtain ⟨v_29,h_30,hc_9⟩:=bind_some hc_9
        refine aS [(0,(vL Campaign.enc l_1)),(4,(.ref n_13 0 0)),(9,(vL Campaign.enc l_1)),(10,(vI (l_1.length:Int))),(11,(vI (k_3:Int))),(46,(vB v_29))] [(n_13,some (.cells 8 (Campaign.v x_5)))] ?_ ?_
        ·refine av (aJ yV rfl 2 rfl wz (aB 0 0 il ft jZ nX rfl rfl (.d (.agg (Window.enc x_5.Time))) rfl wz ?_))
         obtain ⟨r_31,hr_32,h_30⟩:=bind_some h_30
         refine aC (AV hr_32) rfl hb102 rfl rfl rfl rfl wz (aa (vB (!r_31)) ?_)
         rcases ak h_30 with⟨hc_33,h_30⟩|⟨hc_33,h_30⟩
         ·refine aI rfl hc_33 wz (ah (ah (ah (aa (vB true) (aa (vB true) (ah (ah (ah (aa (vB true) (aa (vB true) (ah (ah (ah (aa (vB true) (aa (vB true) (af ?_))))))))))))))))
          obtain rfl:=ae h_30
          exact cu
         ·refine aI rfl hc_33 wz (aJ I5 rfl 5 rfl wa (aB 0 0 il ft sz3 ag3 rfl rfl (vI x_5.Goal) rfl wa ?_))
          obtain ⟨r_34,hr_35,h_30⟩:=bind_some h_30
          refine aC (bD hr_35) rfl rT rfl rfl rfl rfl wa (aa (vB r_34) ?_)
          rcases ak h_30 with⟨hc_36,h_30⟩|⟨hc_36,h_30⟩
          ·refine aI rfl hc_36 wz (ah (ah (ah (aa (vB true) (aa (vB true) (ah (ah (ah (aa (vB true) (aa (vB true) (af ?_)))))))))))
           obtain rfl:=ae h_30
           exact cu
          ·refine aI rfl hc_36 wz (aJ pl100_5 rfl 6 rfl wa (aB 0 0 il ft sz3 ag3 rfl rfl (vI x_5.Most) rfl wa ?_))
           obtain ⟨r_37,hr_38,h_30⟩:=bind_some h_30
           refine aC (bD hr_38) rfl rT rfl rfl rfl rfl wa (aa (vB r_37) ?_)
           rcases ak h_30 with⟨hc_39,h_30⟩|⟨hc_39,h_30⟩
           ·refine aI rfl hc_39 wz (ah (ah (ah (aa (vB true) (aa (vB true) (af ?_))))))
            obtain rfl:=ae h_30
            exact cu
           ·refine aI rfl hc_39 wz (aJ pl100_6 rfl 7 rfl wa (aB 0 0 il ft sz3 ag3 rfl rfl (vI x_5.Cents) rfl wa ?_))
            obtain ⟨r_40,hr_41,h_30⟩:=bind_some h_30
            refine aC (bD hr_41) rfl rT rfl rfl rfl rfl wa (aa (vB r_40) (aa (vB r_40) (af ?_)))
            obtain rfl:=ae h_30
            exact cu
        ·rintro ⟨⟩ _ sl_ H_ hp_ hq_
         refine aO _ hp_ hq_ ?_
         rcases ak hc_9 with⟨hc_42,hc_9⟩|⟨hc_42,hc_9⟩
         ·refine aA rfl hc_42 (aj (aa (vI 1) (af ?_)))
          obtain rfl:=ae hc_9
          obtain rfl:=ae hL_10
          obtain rfl:=ae hF
          exact aH (aN [(vI 1)] ⟨rfl,trivial⟩)
         ·refine ay rfl hc_42 (ax (aj (aJ pl100_3 rfl 4 rfl wz (aB 0 0 il ft K5 L9 rfl rfl (vL eS x_5.Tags) rfl wz ?_))))
          obtain ⟨r_43,hr_44,hc_9⟩:=bind_some hc_9
          refine aC (xN hr_44) rfl hb103 rfl rfl rfl rfl wz (aa (vI r_43) (af (aj (aa (vI r_43) (aa (vB (r_43 != 0)) (af ?_))))))
          rcases ak hc_9 with⟨hc_45,hc_9⟩|⟨hc_45,hc_9⟩
          ·refine aA rfl hc_45 (aj (aa (vI r_43) (aa (vI r_43) (af ?_))))
           obtain rfl:=ae hc_9
           obtain rfl:=ae hL_10
           obtain rfl:=ae hF
           exact aH (aN [(vI r_43)] ⟨rfl,trivial⟩)
          ·refine ay rfl hc_45 (ax (av (fQ (bN hD_6 hn_7) wz rfl (aa (vI ((k_3+1:Nat):Int)) (af ?_)))))
           obtain rfl:=ae hc_9
           exact aY (k_3+1,l_4,()) ⟨hL_10,aW hD_6⟩ (ls_ _) rfl (aK rfl)
  ·rintro s_8 ho_ sl_ H_ hp_ hq_
   subst ho_
   refine aO _ hp_ hq_ (aj (aa (vI 0) (af ?_)))
   obtain rfl:=ae hF
   exact aH (aN [(vI 0)] ⟨rfl,trivial⟩)
theorem F6 {c_1:Campaign} {atv_2:Int} {r:Int} (hF:uA c_1 atv_2=some r) :
  FnM Tryz.prog 68 [(.d (.agg (Campaign.enc c_1))),(vI atv_2)] [] (vI r) []:=by
 refine FnM.of_wH ⟨Tryz.prog,35,[],[]⟩ rfl Tryz.func68 rfl rfl (lb_ rfl) (by kernel_rfl) ?_
 unfold uA at hF
 refine aj (d9 0 (.inl rfl) (Campaign.v c_1) rfl rfl wz (λn_3=>aa (vI 0) (af (au (aQ (aj (aa (vI atv_2) (aJ yV rfl 2 rfl wz (aJ iI rfl 2 rfl wz (aB 0 0 il ft sz3 ag3 rfl rfl (vI c_1.Time.From) rfl wz (aa (vB (decide (atv_2<c_1.Time.From))) (aa (vB (decide (atv_2<c_1.Time.From))) (af ?_)))))))))))))
 rcases ak hF with⟨hc_4,hF⟩|⟨hc_4,hF⟩
 ·refine aA rfl hc_4 (aj (aa (vI 0) (af ?_)))
  obtain rfl:=ae hF
  exact aH (aN [(vI 0)] ⟨rfl,trivial⟩)
 ·refine ay rfl hc_4 (aj (aa (vI atv_2) (aJ yV rfl 2 rfl wz (aJ iK rfl 3 rfl wz (aB 0 0 il ft sz3 ag3 rfl rfl (vI c_1.Time.To) rfl wz (aa (vB (decide (atv_2>=c_1.Time.To))) (aa (vB (decide (atv_2>=c_1.Time.To))) (af ?_))))))))
  rcases ak hF with⟨hc_5,hF⟩|⟨hc_5,hF⟩
  ·refine aA rfl hc_5 (aj (aJ I5 rfl 5 rfl wz (aB 0 0 il ft sz3 ag3 rfl rfl (vI c_1.Goal) rfl wz (aa (vI c_1.Goal) (af ?_)))))
   obtain rfl:=ae hF
   exact aH (aN [(vI c_1.Goal)] ⟨rfl,trivial⟩)
  ·refine ay rfl hc_5 (ax (aj (aJ I5 rfl 5 rfl wz (aB 0 0 il ft sz3 ag3 rfl rfl (vI c_1.Goal) rfl wz (aa (vI atv_2) (aJ yV rfl 2 rfl wz (aJ iI rfl 2 rfl wz (aB 0 0 il ft sz3 ag3 rfl rfl (vI c_1.Time.From) rfl wz (aa (vI (w64 (atv_2-c_1.Time.From))) (aa (vI (w64 (c_1.Goal*(w64 (atv_2-c_1.Time.From))))) (aJ yV rfl 2 rfl wz (aJ iK rfl 3 rfl wz (aB 0 0 il ft sz3 ag3 rfl rfl (vI c_1.Time.To) rfl wz (aJ yV rfl 2 rfl wz (aJ iI rfl 2 rfl wz (aB 0 0 il ft sz3 ag3 rfl rfl (vI c_1.Time.From) rfl wz (aa (vI (w64 (c_1.Time.To-c_1.Time.From))) ?_)))))))))))))))))
   obtain ⟨q_6,hz_7,hF⟩:=bind_some hF
   refine Nw rfl rfl hz_7 wz (aa (vI q_6) (af (aO (H0:=([(n_3,some (.cells 8 (Campaign.v c_1)))]:Hp)) ([(4,(vI q_6))]:SL_) (by kernel_rfl) (xm (by kernel_rfl)) ?_)))
   obtain rfl:=ae hF
   exact aH (aN [(vI q_6)] ⟨rfl,trivial⟩)
theorem FV {c_1:Campaign} {atv_2:Int} {r:Int×Int} (hF:qJ c_1 atv_2=some r) :
  FnM Tryz.prog 36 [(.d (.agg (Campaign.enc c_1))),(vI atv_2)] [] (.tup [(vI r.1),(vI r.2)]) []:=by
 refine FnM.of_wH ⟨Tryz.prog,19,[],[]⟩ rfl Tryz.func36 rfl rfl (lb_ rfl) (by kernel_rfl) ?_
 unfold qJ at hF
 refine aj (d9 0 (.inl rfl) (Campaign.v c_1) rfl rfl wz (λn_3=>aa (vI 0) (aa (vI 0) (af (au (aj (aB 0 0 il ft Nz Ro rfl rfl (.d (.agg (Campaign.enc c_1))) rfl wz (eQ (([c_1]:List Campaign).map Campaign.enc) PR ez130 rfl rfl rfl rfl rfl wz ?_))))))))
 obtain ⟨r_4,hr_5,hF⟩:=bind_some hF
 refine aC (tN hr_5) rfl hb67 rfl rfl rfl rfl wz (aa (vI r_4) (af (aj (aa (vI r_4) (aa (vB (r_4 != 0)) (af ?_))))))
 rcases ak hF with⟨hc_6,hF⟩|⟨hc_6,hF⟩
 ·refine aA rfl hc_6 (aj (aa (vI r_4) (aa (vI 0) (aa (vI r_4) (af ?_)))))
  obtain rfl:=ae hF
  exact aH (aN [(vI 0),(vI r_4)] ⟨rfl,⟨rfl,trivial⟩⟩)
 ·refine ay rfl hc_6 (ax (au (aj (aa (vI atv_2) ?_))))
  obtain ⟨r_7,hr_8,hF⟩:=bind_some hF
  refine aC (gZ hr_8) rfl Ja rfl rfl rfl rfl wz (aa (vB (!r_7)) (af ?_))
  rcases ak hF with⟨hc_9,hF⟩|⟨hc_9,hF⟩
  ·refine aA rfl hc_9 (aj (aa (vI 0) (aa (vI 1) (af ?_))))
   obtain rfl:=ae hF
   exact aH (aN [(vI 0),(vI 1)] ⟨rfl,⟨rfl,trivial⟩⟩)
  ·refine ay rfl hc_9 (ax (aj (aB 0 0 il ft Nz Ro rfl rfl (.d (.agg (Campaign.enc c_1))) rfl wz (aa (vI atv_2) ?_))))
   obtain ⟨r_10,hr_11,hF⟩:=bind_some hF
   refine aC (F6 hr_11) rfl hb68 rfl rfl rfl rfl wz (aa (vI r_10) (aa (vI 0) (af ?_)))
   obtain rfl:=ae hF
   exact aH (aN [(vI r_10),(vI 0)] ⟨rfl,⟨rfl,trivial⟩⟩)
theorem Gf {l_1:(List Beat)} {player_2:ByteArray} {n_3:Int} {back_4:Bool} {r:Int×Int} (hF:qy l_1 player_2 n_3 back_4=some r) :
  FnM Tryz.prog 69 [(vL Beat.enc l_1),(vS player_2),(vI n_3),(vB back_4)] [] (.tup [(vI r.1),(vI r.2)]) []:=by
 refine FnM.of_wH ⟨Tryz.prog,30,[],[]⟩ rfl Tryz.func69 rfl rfl (lb_ rfl) (by kernel_rfl) ?_
 unfold qy at hF
 refine aj (aa (vI 0) (aa (vI 0) (af (au (aj (aa (vL Beat.enc l_1) ?_))))))
 obtain ⟨r_5,hr_6,hF⟩:=bind_some hF
 refine aC (rE hr_6) rfl hb26 rfl rfl rfl rfl wz (aa (vI r_5) (af (aj (aa (vI r_5) (aa (vB (r_5 != 0)) (af ?_))))))
 rcases ak hF with⟨hc_7,hF⟩|⟨hc_7,hF⟩
 ·refine aA rfl hc_7 (aj (aa (vI r_5) (aa (vI 0) (aa (vI r_5) (af ?_)))))
  obtain rfl:=ae hF
  exact aH (aN [(vI 0),(vI r_5)] ⟨rfl,⟨rfl,trivial⟩⟩)
 ·refine ay rfl hc_7 (ax (au (aj (aa (vS player_2) ?_))))
  obtain ⟨r_8,hr_9,hF⟩:=bind_some hF
  refine aC (fw hr_9) rfl AZ rfl rfl rfl rfl wz (aa (vB (!r_8)) (af ?_))
  rcases ak hF with⟨hc_10,hF⟩|⟨hc_10,hF⟩
  ·refine aA rfl hc_10 (aj (aa (vI 0) (aa (vI 5) (af ?_))))
   obtain rfl:=ae hF
   exact aH (aN [(vI 0),(vI 5)] ⟨rfl,⟨rfl,trivial⟩⟩)
  ·refine ay rfl hc_10 (ax (au (aj (aa (vI n_3) ?_))))
   obtain ⟨r_11,hr_12,hF⟩:=bind_some hF
   refine aC (gZ hr_12) rfl Ja rfl rfl rfl rfl wz (aa (vB (!r_11)) (af ?_))
   rcases ak hF with⟨hc_13,hF⟩|⟨hc_13,hF⟩
   ·refine aA rfl hc_13 (aj (aa (vI 0) (aa (vI 1) (af ?_))))
    obtain rfl:=ae hF
    exact aH (aN [(vI 0),(vI 1)] ⟨rfl,⟨rfl,trivial⟩⟩)
   ·refine ay rfl hc_13 (ax (aj (aa (vL Beat.enc l_1) (aa (vS player_2) (aa (vB back_4) ?_)))))
    obtain ⟨r_14,hr_15,hF⟩:=bind_some hF
    refine aC (uZ hr_15) rfl hb57 rfl rfl rfl rfl wz (aa (vI n_3) ?_)
    obtain ⟨r_16,hr_17,hF⟩:=bind_some hF
    refine aC (xx hr_17) rfl hb58 rfl rfl rfl rfl wz (aa (vI r_16.1) (aa (vI r_16.2) (aa (vI r_16.1) (aa (vI r_16.2) (af ?_)))))
    obtain rfl:=ae hF
    exact aH (aN [(vI r_16.1),(vI r_16.2)] ⟨rfl,⟨rfl,trivial⟩⟩)
theorem Gj {l_1:(List Beat)} {player_2:ByteArray} {clock_3:Int} {r:Int×Int} (hF:qH l_1 player_2 clock_3=some r) :
  FnM Tryz.prog 37 [(vL Beat.enc l_1),(vS player_2),(vI clock_3)] [] (.tup [(vI r.1),(vI r.2)]) []:=by
 refine FnM.of_wH ⟨Tryz.prog,14,[],[]⟩ rfl Tryz.func37 rfl rfl (lb_ rfl) (by kernel_rfl) ?_
 unfold qH at hF
 refine aj (aa (vI 0) (aa (vI 0) (af (aj (aa (vL Beat.enc l_1) (aa (vS player_2) (aa (vI clock_3) ?_)))))))
 obtain ⟨r_4,hr_5,hF⟩:=bind_some hF
 refine aC (Gf hr_5) rfl hb69 rfl rfl rfl rfl wz (aa (vI r_4.1) (aa (vI r_4.2) (aa (vI r_4.1) (aa (vI r_4.2) (af ?_)))))
 obtain rfl:=ae hF
 exact aH (aN [(vI r_4.1),(vI r_4.2)] ⟨rfl,⟨rfl,trivial⟩⟩)
end Go.Proofs.YtmkljmjhcegapaaGreatDoor.Law

