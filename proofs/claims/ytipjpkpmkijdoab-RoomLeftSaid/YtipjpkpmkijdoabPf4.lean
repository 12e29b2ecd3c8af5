/-
 The machine computes these plain functions (written by a program of ours).
-/
import Derived.Test.YtipjpkpmkijdoabFacts
import Derived.Test.YtipjpkpmkijdoabDefs
import Derived.Test.YtipjpkpmkijdoabPf3
open Go Go.Eng Go.Proofs
namespace Go.Proofs.Ytipjpkpmkijdoab.Law
set_option maxRecDepth 100000
set_option linter.unusedVariables false
set_option maxHeartbeats 1000000
theorem booking_Rivals_ok {spots_1:(List Spot)} {l_2:(List Campaign)} {r:(List Pair)×Int} (hF:booking_Rivals spots_1 l_2=some r) :
  FnM Try.prog 9 [(vL Spot.enc spots_1),(vL Campaign.enc l_2)] [] (.tup [(vL Pair.enc r.1),(vI r.2)]) []:=by
 refine FnM.of_wH ⟨Try.prog,60,[],[]⟩ rfl Try.func9 rfl rfl (Nat.le_of_ble_eq_true rfl) (by kernel_rfl) ?_
 unfold booking_Rivals at hF
 refine wH_sr (h_opz .nil (h_opz (vI 0) (h_nil (wH_seq (wH_sr (h_opz (vL Spot.enc spots_1) (h_opz (vL Campaign.enc l_2) ?_)))))))
 obtain ⟨r_3,hr_4,hF⟩:=bind_some hF
 refine h_call0 (booking_checkBoth_ok hr_4) rfl hb25 rfl rfl rfl rfl wz (h_opz (vI r_3) (h_nil (wH_sr (h_opz (vI r_3) (h_opz (vB (r_3 != 0)) (h_nil ?_))))))
 rcases cond_some hF with⟨hc_5,hF⟩ | ⟨hc_5,hF⟩
 ·refine wH_ift rfl hc_5 (wH_sr (h_opz (vI r_3) (h_opz .nil (h_opz (vI r_3) (h_nil ?_)))))
  obtain rfl:=some_inj hF
  exact wH_ret (fin0r [.nil,(vI r_3)] ⟨rfl,⟨rfl,trivial⟩⟩)
 ·refine wH_iff rfl hc_5 (wH_skip (wH_sr (h_opz .nil (h_nil (wH_seq (wH_sr (h_opz (vL Campaign.enc l_2) (h_len un27 rfl wz (h_opz (vI 0) (h_nil (wH_new (fun n_12 => ?_))))))))))))
  obtain ⟨o_17,hj_18,hF⟩:=bind_some hF
  obtain ⟨hn_10,hj_18⟩:=forL_some hj_18
  refine wH_loopF (σ:=(List Pair)) (N:=Nm) (fun p=>(fun (s_11:(List Pair)) (n_14:Nm)=>([(7,(gV n_14 2 s_11))]:List (Nat×V))) p.1 p.2) (fun p=>(fun (s_11:(List Pair)) (n_14:Nm)=>([(n_14,gB 2 Pair.enc s_11)]:Hp)) p.1 p.2) (fun (k_6:Nat)=>(fun p=>(fun (s_11:(List Pair)) (n_14:Nm)=>([(0,(vL Spot.enc spots_1)),(1,(vL Campaign.enc l_2)),(7,(gV n_14 2 s_11)),(18,(vL Campaign.enc l_2)),(19,(vI (l_2.length:Int))),(20,(vI (k_6:Int)))]:List (Nat×V))) p.1 p.2)) (fun k x s=>booking_Rivals_L2 l_2 spots_1 k x s) o_17 l_2 (([]:List Pair),n_12) hj_18 rfl (pre_r rfl) ?_ ?_
  ·rintro ⟨k_6,l_7,s_11,n_14⟩ ⟨hL_16,hD_9⟩
   dsimp only at hL_16 hD_9
   cases l_7 with
   | nil =>
    obtain rfl:=some_inj hL_16
    refine wH_sr (h_opz (vB (decide ((k_6:Int) < (l_2.length:Int)))) (h_nil ?_))
    refine wH_seq (wH_iff rfl (drop_nil hD_9) (wH_exit ?_))
    exact cut_mk (s_11,n_14) rfl rfl (pre_r rfl)
   | cons x_8 l_7 =>
    obtain ⟨c_,hc_15,hL_16⟩:=bind_some hL_16
    refine wH_sr (h_opz (vB (decide ((k_6:Int) < (l_2.length:Int)))) (h_nil ?_))
    refine wH_seq (wH_ift rfl (drop_cons hD_9) (wH_skip ?_))
    unfold booking_Rivals_L2 at hc_15
    refine wH_seq (wH_block (wH_sr (h_opz (vI (k_6:Int)) (h_ia es27 rfl rfl (drop_idx hD_9) rfl wz (h_ldc sz37 ag37 rfl (.d (.agg (Campaign.enc x_8))) rfl wz (h_alloc 0 (.inl rfl) z37 rfl wz (fun n_19=>h_opz (vI (k_6:Int)) (h_str 0 il ft 1 sz37 rfl rfl (Campaign.v x_8) rfl wz (h_nil (wH_sr (h_opz (vL Campaign.enc l_2) (h_opz (vI (k_6:Int)) (h_opz (vI (w64 ((k_6:Int) + 1))) ?_)))))))))))))
    obtain ⟨y_20,hy_21,hc_15⟩:=bind_some hc_15
    refine h_sublTrueFalse un27 sz37 (fun _=>rfl) rfl rfl hy_21 wz (h_len un27 rfl wz (h_opz (vI 0) (h_nil ?_)))
    obtain ⟨o_32,hj_33,hc_15⟩:=bind_some hc_15
    obtain ⟨hn_26,hj_33⟩:=forL_some hj_33
    refine wH_loopF (σ:=(List Pair)) (N:=Nm) (fun p=>(fun (s_27:(List Pair)) (n_29:Nm)=>([(0,(vL Spot.enc spots_1)),(1,(vL Campaign.enc l_2)),(7,(gV n_29 2 s_27)),(18,(vL Campaign.enc l_2)),(19,(vI (l_2.length:Int))),(20,(vI (k_6:Int)))]:List (Nat×V))) p.1 p.2) (fun p=>(fun (s_27:(List Pair)) (n_29:Nm)=>([(n_29,gB 2 Pair.enc s_27),(n_19,some (.cells 8 (Campaign.v x_8)))]:Hp)) p.1 p.2) (fun (k_22:Nat)=>(fun p=>(fun (s_27:(List Pair)) (n_29:Nm)=>([(0,(vL Spot.enc spots_1)),(1,(vL Campaign.enc l_2)),(7,(gV n_29 2 s_27)),(9,(.ref n_19 0 0)),(18,(vL Campaign.enc l_2)),(19,(vI (l_2.length:Int))),(20,(vI (k_6:Int))),(28,(vL Campaign.enc y_20)),(29,(vI (y_20.length:Int))),(30,(vI (k_22:Int)))]:List (Nat×V))) p.1 p.2)) (fun k x s=>booking_Rivals_L1 x_8 spots_1 k x s) o_32 y_20 (s_11,n_14) hj_33 rfl (pre_r rfl) ?_ ?_
    ·rintro ⟨k_22,l_23,s_27,n_29⟩ ⟨hL_31,hD_25⟩
     dsimp only at hL_31 hD_25
     cases l_23 with
     | nil =>
      obtain rfl:=some_inj hL_31
      refine wH_sr (h_opz (vB (decide ((k_22:Int) < (y_20.length:Int)))) (h_nil ?_))
      refine wH_seq (wH_iff rfl (drop_nil hD_25) (wH_exit ?_))
      exact cut_mk (s_27,n_29) rfl rfl (pre_r rfl)
     | cons x_24 l_23 =>
      obtain ⟨c_,hc_30,hL_31⟩:=bind_some hL_31
      refine wH_sr (h_opz (vB (decide ((k_22:Int) < (y_20.length:Int)))) (h_nil ?_))
      refine wH_seq (wH_ift rfl (drop_cons hD_25) (wH_skip ?_))
      unfold booking_Rivals_L1 at hc_30
      refine wH_seq (wH_block (wH_sr (h_ia es27 rfl rfl (drop_idx hD_25) rfl wz (h_ldc sz37 ag37 rfl (.d (.agg (Campaign.enc x_24))) rfl wz (h_alloc 0 (.inl rfl) z37 rfl wz (fun n_34=>h_str 0 il ft 2 sz37 rfl rfl (Campaign.v x_24) rfl wz (h_nil (wH_seq ?_))))))))
      obtain ⟨v_35,h_36,hc_30⟩:=bind_some hc_30
      refine wH_joinU [(0,(vL Spot.enc spots_1)),(1,(vL Campaign.enc l_2)),(7,(gV n_29 2 s_27)),(9,(.ref n_19 0 0)),(11,(.ref n_34 0 0)),(18,(vL Campaign.enc l_2)),(19,(vI (l_2.length:Int))),(20,(vI (k_6:Int))),(28,(vL Campaign.enc y_20)),(29,(vI (y_20.length:Int))),(30,(vI (k_22:Int))),(48,(vB v_35))] [(n_29,gB 2 Pair.enc s_27),(n_19,some (.cells 8 (Campaign.v x_8))),(n_34,some (.cells 8 (Campaign.v x_24)))] ?_ ?_
      ·refine wH_region (h_far pl37_1 rfl 1 rfl wz (h_ldr 0 1 il ft sz9 ag9 rfl rfl (vS x_8.Class) rfl wz (h_opz (vB (sNe x_8.Class (⟨#[]⟩:ByteArray))) ?_)))
       rcases cond_some h_36 with⟨hc_37,h_36⟩ | ⟨hc_37,h_36⟩
       ·refine h_movb rfl hc_37 wz (h_far pl37_1 rfl 1 rfl wa (h_ldr 0 1 il ft sz9 ag9 rfl rfl (vS x_8.Class) rfl wa (h_far pl37_1 rfl 1 rfl wa (h_ldr 0 2 il ft sz9 ag9 rfl rfl (vS x_24.Class) rfl wa (h_op (vB (sEq x_8.Class x_24.Class)) wa rfl (h_opz (vB (sEq x_8.Class x_24.Class)) ?_))))))
        rcases cond_some h_36 with⟨hc_38,h_36⟩ | ⟨hc_38,h_36⟩
        ·refine h_movb rfl hc_38 wz (h_op (vL Spot.enc spots_1) wa rfl (h_op (.fn 33 [(.ref n_19 0 0),(.ref n_34 0 0)]) wa rfl ?_))
         obtain ⟨r_39,hr_40,h_36⟩:=bind_some h_36
         refine h_callq 0 [1,2] il ft (slices_ContainsFunc_api_Spot_api_Spot_ok (gid:=33) (caps := [.ref (extN 0) 0 0,.ref (extN 1) 0 0]) (Sin := [(.cells 8 (Campaign.v x_8)),(.cells 8 (Campaign.v x_24))]) (fun _ _ h_=>booking_Rivals_1_ok h_) hb33 ⟨rfl,rfl⟩ (by kernel_rfl) (all_ok (by kernel_rfl)) (all_mut (by kernel_rfl)) hr_40) rfl hb32 rfl (by kernel_rfl) (by kernel_rfl) (by kernel_rfl) (by kernel_rfl) (by kernel_rfl) (by kernel_rfl) (by kernel_rfl) (by decide) (by kernel_rfl) wa (vB r_39) (by kernel_rfl) ([(n_29,gB 2 Pair.enc s_27),(n_19,some (.cells 8 (Campaign.v x_8))),(n_34,some (.cells 8 (Campaign.v x_24)))]:Hp) (by kernel_rfl) (h_opz (vB r_39) (h_nil ?_))
         obtain rfl:=some_inj h_36
         exact cu
        ·refine h_movb rfl hc_38 wz (h_skipz (h_skipz (h_skipz (h_opz (vB false) (h_nil ?_)))))
         obtain rfl:=some_inj h_36
         exact cu
       ·refine h_movb rfl hc_37 wz (h_skipz (h_skipz (h_skipz (h_skipz (h_skipz (h_opz (vB false) (h_opz (vB false) (h_skipz (h_skipz (h_skipz (h_opz (vB false) (h_nil ?_))))))))))))
        obtain rfl:=some_inj h_36
        exact cu
      ·rintro ⟨⟩ _ sl_ H_ hp_ hq_
       refine wH_at _ hp_ hq_ ?_
       obtain ⟨v_42,h_43,hc_30⟩:=bind_some hc_30
       refine wH_join (β:=Nm) (fun (n_44:Nm)=>([(0,(vL Spot.enc spots_1)),(1,(vL Campaign.enc l_2)),(7,(gV n_44 2 v_42)),(9,(.ref n_19 0 0)),(18,(vL Campaign.enc l_2)),(19,(vI (l_2.length:Int))),(20,(vI (k_6:Int))),(28,(vL Campaign.enc y_20)),(29,(vI (y_20.length:Int))),(30,(vI (k_22:Int)))]:List (Nat×V))) (fun (n_44:Nm)=>([(n_44,gB 2 Pair.enc v_42),(n_19,some (.cells 8 (Campaign.v x_8))),(n_34,some (.cells 8 (Campaign.v x_24)))]:Hp)) (fun _=>True) ?_ ?_
       ·rcases cond_some h_43 with⟨hc_45,h_43⟩ | ⟨hc_45,h_43⟩
        ·refine wH_ift rfl hc_45 (wH_region (h_opz (gV n_29 2 s_27) (h_far pl37_0 rfl 0 rfl wz (h_ldr 0 1 il ft sz9 ag9 rfl rfl (vS x_8.Key) rfl wz (h_far pl37_0 rfl 0 rfl wz (h_ldr 0 2 il ft sz9 ag9 rfl rfl (vS x_24.Key) rfl wz (h_op (.d (.agg (Pair.enc (⟨x_8.Key,x_24.Key⟩:Pair)))) wz (by kernel_rfl) (h_lit (([(⟨x_8.Key,x_24.Key⟩:Pair)]:List Pair).map Pair.enc) es42 ez42 rfl rfl rfl rfl rfl wz ?_))))))))
         obtain ⟨a_46,hz_47,h_43⟩:=bind_some h_43
         refine h_appg 0 il ft (i:=0) el42 el42 sz57 z57 rfl (by decide) by57 (by decide) (fun _=>rfl) rfl rfl rfl hz_47 wz (fun n_48=>h_opz (gV n_48 2 a_46) (h_nil ?_))
         obtain rfl:=some_inj h_43
         exact cut_mk n_48 trivial rfl (pre_r rfl)
        ·refine wH_iff rfl hc_45 (wH_skip ?_)
         obtain rfl:=some_inj h_43
         exact cut_mk n_29 trivial rfl (pre_r rfl)
       ·rintro n_44 _ sl_ H_ hp_ hq_
        refine wH_at _ hp_ hq_ (wH_region (h_opw (w64_next hD_25 hn_26) wz rfl (h_opz (vI ((k_22 + 1:Nat):Int)) (h_nil ?_))))
        obtain rfl:=some_inj hc_30
        exact loop_mk (k_22 + 1,l_23,v_42,n_44) ⟨hL_31,drop_next hD_25⟩ (Nat.lt_succ_self _) rfl (pre_r rfl)
    ·rintro ⟨s_27,n_29⟩ ho_ sl_ H_ hp_ hq_
     subst ho_
     refine wH_at _ hp_ hq_ (wH_region (h_opw (w64_next hD_9 hn_10) wz rfl (h_opz (vI ((k_6 + 1:Nat):Int)) (h_nil ?_))))
     obtain rfl:=some_inj hc_15
     exact loop_mk (k_6 + 1,l_7,s_27,n_29) ⟨hL_16,drop_next hD_9⟩ (Nat.lt_succ_self _) rfl (pre_r rfl)
  ·rintro ⟨s_11,n_14⟩ ho_ sl_ H_ hp_ hq_
   subst ho_
   refine wH_at _ hp_ hq_ (wH_sr (h_opz (gV n_14 2 s_11) (h_opz (gV n_14 2 s_11) (h_opz (vI 0) (h_nil (wH_frozg 0 rfl (wH_cog 4 0 rfl rfl (wH_cog 7 0 rfl rfl (wH_cog 59 0 rfl rfl ?_)))))))))
   obtain rfl:=some_inj hF
   exact wH_ret (fin0r [(vL Pair.enc s_11),(vI 0)] ⟨rfl,⟨rfl,trivial⟩⟩)
theorem law_RoomLeft_1_ok {y_1:Campaign} {p_2:Campaign} {r:Bool} (hF:law_RoomLeft_1 y_1 p_2=some r) :
  FnM Try.prog 14 [(.d (.agg (Campaign.enc y_1))),(.ref (extN 0) 0 0)] [(.cells 8 (Campaign.v p_2))] (vB r) [some (.cells 8 (Campaign.v p_2))]:=by
 refine FnM.of_wH ⟨Try.prog,9,[],[]⟩ rfl Try.func14 rfl rfl (Nat.le_of_ble_eq_true rfl) (by kernel_rfl) ?_
 unfold law_RoomLeft_1 at hF
 refine wH_sr (h_box 0 (.inl rfl) (Campaign.v y_1) rfl rfl wz (fun n_3=>h_opz (vB false) (h_nil (wH_sr (h_far pl37_0 rfl 0 rfl wz (h_ldr 0 1 il ft sz9 ag9 rfl rfl (vS y_1.Key) rfl wz (h_far pl37_0 rfl 0 rfl wz (h_ldr 0 0 il ft sz9 ag9 rfl rfl (vS p_2.Key) rfl wz (h_opz (vB (sEq y_1.Key p_2.Key)) (h_opz (vB (sEq y_1.Key p_2.Key)) (h_nil ?_)))))))))))
 obtain rfl:=some_inj hF
 exact wH_ret (finB (.inr rfl) [(vB (sEq y_1.Key p_2.Key))] _ [0] [extN 0] ⟨rfl,trivial⟩ (.cons (co_data rfl rfl) (.nil)) (by kernel_rfl) ⟨(by kernel_rfl),trivial⟩ (by decide) (by kernel_rfl))
theorem law_when_ok {is_1:Bool} {e_2:Int} {r:Int} (hF:law_when is_1 e_2=some r) :
  FnM Try.prog 12 [(vB is_1),(vI e_2)] [] (vI r) []:=by
 refine FnM.of_wH ⟨Try.prog,7,[],[]⟩ rfl Try.func12 rfl rfl (Nat.le_of_ble_eq_true rfl) (by kernel_rfl) ?_
 unfold law_when at hF
 refine wH_sr (h_opz (vI 0) (h_nil (wH_seq (wH_sr (h_opz (vB is_1) (h_nil ?_))))))
 rcases cond_some hF with⟨hc_3,hF⟩ | ⟨hc_3,hF⟩
 ·refine wH_ift rfl hc_3 (wH_sr (h_opz (vI e_2) (h_opz (vI e_2) (h_nil ?_))))
  obtain rfl:=some_inj hF
  exact wH_ret (fin0r [(vI e_2)] ⟨rfl,trivial⟩)
 ·refine wH_iff rfl hc_3 (wH_skip (wH_sr (h_opz (vI 0) (h_nil ?_))))
  obtain rfl:=some_inj hF
  exact wH_ret (fin0r [(vI 0)] ⟨rfl,trivial⟩)
theorem slices_Index_string_string_ok {s_1:(List ByteArray)} {v_2:ByteArray} {r:Int} (hF:slices_Index_string_string s_1 v_2=some r) :
  FnM Try.prog 75 [(vL eS s_1),(vS v_2)] [] (vI r) []:=by
 refine FnM.of_wH ⟨Try.prog,19,[],[]⟩ rfl Try.func75 rfl rfl (Nat.le_of_ble_eq_true rfl) (by kernel_rfl) ?_
 unfold slices_Index_string_string at hF
 refine wH_sr (h_opz (vI 0) (h_nil (wH_seq (wH_sr (h_opz (vL eS s_1) (h_len un35 rfl wz (h_opz (vI 0) (h_nil ?_))))))))
 obtain ⟨o_11,hj_12,hF⟩:=bind_some hF
 obtain ⟨hn_7,hj_12⟩:=forL_some hj_12
 refine wH_loopF0 (fun (s_8:Unit) => []) (fun (s_8:Unit) => []) (fun (k_3:Nat)=>(fun (s_8:Unit) => [(0,(vL eS s_1)),(1,(vS v_2)),(7,(vI (s_1.length:Int))),(8,(vI (k_3:Int)))])) (fun k x s=>slices_Index_string_string_L1 v_2 k x s) o_11 s_1 () hj_12 rfl (pre_r rfl) ?_ ?_
 ·rintro ⟨k_3,l_4,s_8⟩ ⟨hL_10,hD_6⟩
  dsimp only at hL_10 hD_6
  cases l_4 with
  | nil =>
   obtain rfl:=some_inj hL_10
   refine wH_sr (h_opz (vB (decide ((k_3:Int) < (s_1.length:Int)))) (h_nil ?_))
   refine wH_seq (wH_iff rfl (drop_nil hD_6) (wH_exit ?_))
   exact cut_mk (s_8) rfl rfl (pre_r rfl)
  | cons x_5 l_4 =>
   obtain ⟨c_,hc_9,hL_10⟩:=bind_some hL_10
   refine wH_sr (h_opz (vB (decide ((k_3:Int) < (s_1.length:Int)))) (h_nil ?_))
   refine wH_seq (wH_ift rfl (drop_cons hD_6) (wH_skip ?_))
   unfold slices_Index_string_string_L1 at hc_9
   refine wH_seq (wH_block (wH_sr (h_opz (vI (k_3:Int)) (h_opz (vI (k_3:Int)) (h_nil (wH_sr (h_opz (vS v_2) (h_opz (vL eS s_1) (h_opz (vI (k_3:Int)) (h_ia es35 rfl rfl (drop_idx hD_6) rfl wz (h_ldc sz9 ag9 rfl (vS x_5) rfl wz (h_opz (vB (sEq v_2 x_5)) (h_nil ?_)))))))))))))
   rcases cond_some hc_9 with⟨hc_13,hc_9⟩ | ⟨hc_13,hc_9⟩
   ·refine wH_ift rfl hc_13 (wH_sr (h_opz (vI (k_3:Int)) (h_opz (vI (k_3:Int)) (h_nil ?_))))
    obtain rfl:=some_inj hc_9
    obtain rfl:=some_inj hL_10
    obtain rfl:=some_inj hF
    exact wH_ret (fin0r [(vI (k_3:Int))] ⟨rfl,trivial⟩)
   ·refine wH_iff rfl hc_13 (wH_skip (wH_region (h_opw (w64_next hD_6 hn_7) wz rfl (h_opz (vI ((k_3 + 1:Nat):Int)) (h_nil ?_)))))
    obtain rfl:=some_inj hc_9
    exact loop_mk (k_3 + 1,l_4,()) ⟨hL_10,drop_next hD_6⟩ (Nat.lt_succ_self _) rfl (pre_r rfl)
 ·rintro s_8 ho_ sl_ H_ hp_ hq_
  subst ho_
  refine wH_at _ hp_ hq_ (wH_sr (h_opz (vI (-1)) (h_nil ?_)))
  obtain rfl:=some_inj hF
  exact wH_ret (fin0r [(vI (-1))] ⟨rfl,trivial⟩)
theorem slices_Contains_string_string_ok {s_1:(List ByteArray)} {v_2:ByteArray} {r:Bool} (hF:slices_Contains_string_string s_1 v_2=some r) :
  FnM Try.prog 65 [(vL eS s_1),(vS v_2)] [] (vB r) []:=by
 refine FnM.of_wH ⟨Try.prog,9,[],[]⟩ rfl Try.func65 rfl rfl (Nat.le_of_ble_eq_true rfl) (by kernel_rfl) ?_
 unfold slices_Contains_string_string at hF
 refine wH_sr (h_opz (vB false) (h_nil (wH_sr (h_opz (vL eS s_1) (h_opz (vS v_2) ?_)))))
 obtain ⟨r_3,hr_4,hF⟩:=bind_some hF
 refine h_call0 (slices_Index_string_string_ok hr_4) rfl hb75 rfl rfl rfl rfl wz (h_opz (vB (decide (r_3≥0))) (h_opz (vB (decide (r_3≥0))) (h_nil ?_)))
 obtain rfl:=some_inj hF
 exact wH_ret (fin0r [(vB (decide (r_3≥0)))] ⟨rfl,trivial⟩)
theorem ref_SuitsOf_1_ok {t_1:ByteArray} {p_2:Spot} {r:Bool} (hF:ref_SuitsOf_1 t_1 p_2=some r) :
  FnM Try.prog 64 [(vS t_1),(.ref (extN 0) 0 0)] [(.cells 5 (Spot.v p_2))] (vB r) [some (.cells 5 (Spot.v p_2))]:=by
 refine FnM.of_wH ⟨Try.prog,9,[],[]⟩ rfl Try.func64 rfl rfl (Nat.le_of_ble_eq_true rfl) (by kernel_rfl) ?_
 unfold ref_SuitsOf_1 at hF
 refine wH_sr (h_opz (vB false) (h_nil (wH_sr (h_far pl69_3 rfl 4 rfl wz (h_ldr 0 0 il ft sz35 ag35 rfl rfl (vL eS p_2.Tags) rfl wz (h_opz (vS t_1) ?_))))))
 obtain ⟨r_3,hr_4,hF⟩:=bind_some hF
 refine h_call0 (slices_Contains_string_string_ok hr_4) rfl hb65 rfl rfl rfl rfl wz (h_opz (vB (!r_3)) (h_opz (vB (!r_3)) (h_nil ?_)))
 obtain rfl:=some_inj hF
 exact wH_ret (finB (.inr rfl) [(vB (!r_3))] _ [0] [extN 0] ⟨rfl,trivial⟩ (.cons (co_data rfl rfl) (.nil)) (by kernel_rfl) ⟨(by kernel_rfl),trivial⟩ (by decide) (by kernel_rfl))
theorem slices_IndexFunc_string_string_ok {s_1:(List ByteArray)} {f_2:ByteArray→Option Bool} {r:Int} {gid:FuncId} {caps:List V} {Sin:List Box} (hfn:∀ x0 r,f_2 x0=some r→FnM Try.prog gid ([(vS x0)]++caps) Sin (vB r) (Sin.map some)) (hbF:hasBody Try.prog gid=true) (hcapF:caps.flatMap frz = []∧caps.map co0=caps) (hokF:okL Sin.length caps=true) (hsF:∀ b∈Sin,b.ok Sin.length=true) (hmF:∀ b∈Sin,b.mut=true) (hF:slices_IndexFunc_string_string s_1 f_2=some r) :
  FnM Try.prog 74 [(vL eS s_1),(.fn gid caps)] Sin (vI r) (Sin.map some):=by
 refine FnM.of_wH ⟨Try.prog,19,[],[]⟩ rfl Try.func74 rfl rfl (Nat.le_of_ble_eq_true rfl) (by kernel_rfl) ?_
 unfold slices_IndexFunc_string_string at hF
 refine wH_sr (h_opz (vI 0) (h_nil (wH_seq (wH_sr (h_opz (vL eS s_1) (h_len un35 rfl wz (h_opz (vI 0) (h_nil ?_))))))))
 obtain ⟨o_11,hj_12,hF⟩:=bind_some hF
 obtain ⟨hn_7,hj_12⟩:=forL_some hj_12
 refine wH_loopF0 (fun (s_8:Unit) => []) (fun (s_8:Unit)=>(initH 0 Sin)) (fun (k_3:Nat)=>(fun (s_8:Unit) => [(0,(vL eS s_1)),(1,(.fn gid caps)),(7,(vI (s_1.length:Int))),(8,(vI (k_3:Int)))])) (fun k x s=>slices_IndexFunc_string_string_L1 f_2 k x s) o_11 s_1 () hj_12 rfl (pre_self _) ?_ ?_
 ·rintro ⟨k_3,l_4,s_8⟩ ⟨hL_10,hD_6⟩
  dsimp only at hL_10 hD_6
  cases l_4 with
  | nil =>
   obtain rfl:=some_inj hL_10
   refine wH_sr (h_opz (vB (decide ((k_3:Int) < (s_1.length:Int)))) (h_nil ?_))
   refine wH_seq (wH_iff rfl (drop_nil hD_6) (wH_exit ?_))
   exact cut_mk (s_8) rfl rfl (pre_self _)
  | cons x_5 l_4 =>
   obtain ⟨c_,hc_9,hL_10⟩:=bind_some hL_10
   refine wH_sr (h_opz (vB (decide ((k_3:Int) < (s_1.length:Int)))) (h_nil ?_))
   refine wH_seq (wH_ift rfl (drop_cons hD_6) (wH_skip ?_))
   unfold slices_IndexFunc_string_string_L1 at hc_9
   refine wH_seq (wH_block (wH_sr (h_opz (vI (k_3:Int)) (h_opz (vI (k_3:Int)) (h_nil (wH_sr (h_opz (.fn gid caps) (h_opz (vL eS s_1) (h_opz (vI (k_3:Int)) (h_ia es35 rfl rfl (drop_idx hD_6) rfl wz (h_ldc sz9 ag9 rfl (vS x_5) rfl wz ?_)))))))))))
   obtain ⟨r_13,hr_14,hc_9⟩:=bind_some hc_9
   refine h_callS (hfn _ _ hr_14) rfl hbF rfl rfl hcapF hokF hsF hmF rfl wz rfl (h_nil ?_)
   rcases cond_some hc_9 with⟨hc_15,hc_9⟩ | ⟨hc_15,hc_9⟩
   ·refine wH_ift rfl hc_15 (wH_sr (h_opz (vI (k_3:Int)) (h_opz (vI (k_3:Int)) (h_nil ?_))))
    obtain rfl:=some_inj hc_9
    obtain rfl:=some_inj hL_10
    obtain rfl:=some_inj hF
    exact wH_ret (finS hsF (.inr rfl) [(vI (k_3:Int))] ⟨rfl,trivial⟩ rfl rfl rfl)
   ·refine wH_iff rfl hc_15 (wH_skip (wH_region (h_opw (w64_next hD_6 hn_7) wz rfl (h_opz (vI ((k_3 + 1:Nat):Int)) (h_nil ?_)))))
    obtain rfl:=some_inj hc_9
    exact loop_mk (k_3 + 1,l_4,()) ⟨hL_10,drop_next hD_6⟩ (Nat.lt_succ_self _) rfl (pre_self _)
 ·rintro s_8 ho_ sl_ H_ hp_ hq_
  subst ho_
  refine wH_at _ hp_ hq_ (wH_sr (h_opz (vI (-1)) (h_nil ?_)))
  obtain rfl:=some_inj hF
  exact wH_ret (finS hsF (.inr rfl) [(vI (-1))] ⟨rfl,trivial⟩ rfl rfl rfl)
theorem slices_ContainsFunc_string_string_ok {s_1:(List ByteArray)} {f_2:ByteArray→Option Bool} {r:Bool} {gid:FuncId} {caps:List V} {Sin:List Box} (hfn:∀ x0 r,f_2 x0=some r→FnM Try.prog gid ([(vS x0)]++caps) Sin (vB r) (Sin.map some)) (hbF:hasBody Try.prog gid=true) (hcapF:caps.flatMap frz = []∧caps.map co0=caps) (hokF:okL Sin.length caps=true) (hsF:∀ b∈Sin,b.ok Sin.length=true) (hmF:∀ b∈Sin,b.mut=true) (hF:slices_ContainsFunc_string_string s_1 f_2=some r) :
  FnM Try.prog 63 [(vL eS s_1),(.fn gid caps)] Sin (vB r) (Sin.map some):=by
 refine FnM.of_wH ⟨Try.prog,9,[],[]⟩ rfl Try.func63 rfl rfl (Nat.le_of_ble_eq_true rfl) (by kernel_rfl) ?_
 unfold slices_ContainsFunc_string_string at hF
 refine wH_sr (h_opz (vB false) (h_nil (wH_sr (h_opz (vL eS s_1) (h_opz (.fn gid caps) ?_)))))
 obtain ⟨r_3,hr_4,hF⟩:=bind_some hF
 refine h_callS (slices_IndexFunc_string_string_ok (gid:=gid) (caps:=caps) (Sin:=Sin) hfn hbF hcapF hokF hsF hmF hr_4) rfl hb74 rfl rfl ⟨rfl,rfl⟩ (by simp [okL,okV,hokF]) hsF hmF rfl wz rfl (h_opz (vB (decide (r_3≥0))) (h_opz (vB (decide (r_3≥0))) (h_nil ?_)))
 obtain rfl:=some_inj hF
 exact wH_ret (finS hsF (.inr rfl) [(vB (decide (r_3≥0)))] ⟨rfl,trivial⟩ rfl rfl rfl)
theorem ref_SuitsOf_ok {c_1:Campaign} {s_2:Spot} {r:Bool} (hF:ref_SuitsOf c_1 s_2=some r) :
  FnM Try.prog 44 [(.d (.agg (Campaign.enc c_1))),(.d (.agg (Spot.enc s_2)))] [] (vB r) []:=by
 refine FnM.of_wH ⟨Try.prog,28,[],[]⟩ rfl Try.func44 rfl rfl (Nat.le_of_ble_eq_true rfl) (by kernel_rfl) ?_
 unfold ref_SuitsOf at hF
 refine wH_sr (h_box 0 (.inl rfl) (Campaign.v c_1) rfl rfl wz (fun n_3=>h_box 0 (.inl rfl) (Spot.v s_2) rfl rfl wz (fun n_4=>h_opz (vB false) (h_nil (wH_seq ?_)))))
 obtain ⟨v_5,h_6,hF⟩:=bind_some hF
 refine wH_joinU [(4,(vB v_5))] [(n_3,some (.cells 8 (Campaign.v c_1))),(n_4,some (.cells 5 (Spot.v s_2)))] ?_ ?_
 ·refine wH_region (h_far pl37_2 rfl 2 rfl wz (h_far pl34_0 rfl 2 rfl wz (h_ldr 0 0 il ft sz3 ag3 rfl rfl (vI c_1.Time.From) rfl wz (h_far pl69_1 rfl 1 rfl wz (h_far pl34_0 rfl 1 rfl wz (h_ldr 0 1 il ft sz3 ag3 rfl rfl (vI s_2.Time.From) rfl wz (h_opz (vB (decide (c_1.Time.From≤s_2.Time.From))) ?_)))))))
  rcases cond_some h_6 with⟨hc_7,h_6⟩ | ⟨hc_7,h_6⟩
  ·refine h_movb rfl hc_7 wz (h_far pl69_1 rfl 1 rfl wa (h_far pl34_1 rfl 2 rfl wa (h_ldr 0 1 il ft sz3 ag3 rfl rfl (vI s_2.Time.To) rfl wa (h_far pl37_2 rfl 2 rfl wa (h_far pl34_1 rfl 3 rfl wa (h_ldr 0 0 il ft sz3 ag3 rfl rfl (vI c_1.Time.To) rfl wa (h_op (vB (decide (s_2.Time.To≤c_1.Time.To))) wa rfl (h_opz (vB (decide (s_2.Time.To≤c_1.Time.To))) ?_))))))))
   rcases cond_some h_6 with⟨hc_8,h_6⟩ | ⟨hc_8,h_6⟩
   ·refine h_movb rfl hc_8 wz (h_far pl37_3 rfl 4 rfl wa (h_ldr 0 0 il ft sz35 ag35 rfl rfl (vL eS c_1.Tags) rfl wa (h_op (.fn 64 [(.ref n_4 0 0)]) wa rfl ?_)))
    obtain ⟨r_9,hr_10,h_6⟩:=bind_some h_6
    refine h_callq 0 [1] il ft (slices_ContainsFunc_string_string_ok (gid:=64) (caps := [.ref (extN 0) 0 0]) (Sin := [(.cells 5 (Spot.v s_2))]) (fun _ _ h_=>ref_SuitsOf_1_ok h_) hb64 ⟨rfl,rfl⟩ (by kernel_rfl) (all_ok (by kernel_rfl)) (all_mut (by kernel_rfl)) hr_10) rfl hb63 rfl (by kernel_rfl) (by kernel_rfl) (by kernel_rfl) (by kernel_rfl) (by kernel_rfl) (by kernel_rfl) (by kernel_rfl) (by decide) (by kernel_rfl) wa (vB r_9) (by kernel_rfl) ([(n_3,some (.cells 8 (Campaign.v c_1))),(n_4,some (.cells 5 (Spot.v s_2)))]:Hp) (by kernel_rfl) (h_op (vB (!r_9)) wa rfl (h_opz (vB (!r_9)) (h_opz (vB (!r_9)) (h_nil ?_))))
    obtain rfl:=some_inj h_6
    exact cu
   ·refine h_movb rfl hc_8 wz (h_skipz (h_skipz (h_skipz (h_skipz (h_skipz (h_opz (vB false) (h_opz (vB false) (h_nil ?_))))))))
    obtain rfl:=some_inj h_6
    exact cu
  ·refine h_movb rfl hc_7 wz (h_skipz (h_skipz (h_skipz (h_skipz (h_skipz (h_skipz (h_skipz (h_opz (vB false) (h_opz (vB false) (h_skipz (h_skipz (h_skipz (h_skipz (h_skipz (h_opz (vB false) (h_opz (vB false) (h_nil ?_)))))))))))))))))
   obtain rfl:=some_inj h_6
   exact cu
 ·rintro ⟨⟩ _ sl_ H_ hp_ hq_
  refine wH_at _ hp_ hq_ ?_
  obtain rfl:=some_inj hF
  exact wH_ret (fin0r [(vB v_5)] ⟨rfl,trivial⟩)
theorem ref_greatest_ok {spots_1:(List Spot)} {l_2:(List Campaign)} {r:Int} (hF:ref_greatest spots_1 l_2=some r) :
  FnM Try.prog 40 [(vL Spot.enc spots_1),(vL Campaign.enc l_2)] [] (vI r) []:=by
 refine FnM.of_wH ⟨Try.prog,83,[],[]⟩ rfl Try.func40 rfl rfl (Nat.le_of_ble_eq_true rfl) (by kernel_rfl) ?_
 unfold ref_greatest at hF
 refine wH_sr (h_opz (vI 0) (h_nil (wH_sr (h_opz (vI (-1)) (h_nil (wH_seq (wH_sr (h_opz (vL Spot.enc spots_1) (h_len un26 rfl wz ?_)))))))))
 obtain ⟨q_3,hz_4,hF⟩:=bind_some hF
 refine h_shl rfl rfl hz_4 wz (h_opz (vI 0) (h_nil ?_))
 obtain ⟨o_13,hj_14,hF⟩:=bind_some hF
 obtain ⟨hn_9,hj_14⟩:=forL_some hj_14
 refine wH_loopF0 (fun (s_10:Int) => [(5,(vI s_10))]) (fun (s_10:Int) => []) (fun (k_5:Nat)=>(fun (s_10:Int) => [(0,(vL Spot.enc spots_1)),(1,(vL Campaign.enc l_2)),(5,(vI s_10)),(17,(vI q_3)),(18,(vI (k_5:Int)))])) (fun k x s=>ref_greatest_L4 spots_1 l_2 k x s) o_13 (List.range (q_3).toNat) (-1) hj_14 rfl (pre_r rfl) ?_ ?_
 ·rintro ⟨k_5,l_6,s_10⟩ ⟨hL_12,hD_8⟩
  dsimp only at hL_12 hD_8
  cases l_6 with
  | nil =>
   obtain rfl:=some_inj hL_12
   refine wH_sr (h_opz (vB (decide ((k_5:Int) < q_3))) (h_nil ?_))
   refine wH_seq (wH_iff rfl (range_nil hD_8) (wH_exit ?_))
   exact cut_mk (s_10) rfl rfl (pre_r rfl)
  | cons x_7 l_6 =>
   obtain ⟨c_,hc_11,hL_12⟩:=bind_some hL_12
   refine wH_sr (h_opz (vB (decide ((k_5:Int) < q_3))) (h_nil ?_))
   refine wH_seq (wH_ift rfl (range_cons hD_8) (wH_skip ?_))
   unfold ref_greatest_L4 at hc_11
   refine wH_seq (wH_block (wH_sr (h_opz (vI (k_5:Int)) (h_opz (vI (k_5:Int)) (h_nil (wH_sr (h_opz (vI 0) (h_nil (wH_seq (wH_sr (h_opz (vL Spot.enc spots_1) (h_len un26 rfl wz (h_opz (vI 0) (h_nil ?_))))))))))))))
   obtain ⟨o_23,hj_24,hc_11⟩:=bind_some hc_11
   obtain ⟨hn_19,hj_24⟩:=forL_some hj_24
   refine wH_loopF0 (fun (s_20:Int) => [(0,(vL Spot.enc spots_1)),(1,(vL Campaign.enc l_2)),(5,(vI s_10)),(6,(vI (k_5:Int))),(7,(vI s_20)),(17,(vI q_3)),(18,(vI (k_5:Int)))]) (fun (s_20:Int) => []) (fun (k_15:Nat)=>(fun (s_20:Int) => [(0,(vL Spot.enc spots_1)),(1,(vL Campaign.enc l_2)),(5,(vI s_10)),(6,(vI (k_5:Int))),(7,(vI s_20)),(17,(vI q_3)),(18,(vI (k_5:Int))),(21,(vL Spot.enc spots_1)),(22,(vI (spots_1.length:Int))),(23,(vI (k_15:Int)))])) (fun k x s=>ref_greatest_L1 k_5 k x s) o_23 spots_1 0 hj_24 rfl (pre_r rfl) ?_ ?_
   ·rintro ⟨k_15,l_16,s_20⟩ ⟨hL_22,hD_18⟩
    dsimp only at hL_22 hD_18
    cases l_16 with
    | nil =>
     obtain rfl:=some_inj hL_22
     refine wH_sr (h_opz (vB (decide ((k_15:Int) < (spots_1.length:Int)))) (h_nil ?_))
     refine wH_seq (wH_iff rfl (drop_nil hD_18) (wH_exit ?_))
     exact cut_mk (s_20) rfl rfl (pre_r rfl)
    | cons x_17 l_16 =>
     obtain ⟨c_,hc_21,hL_22⟩:=bind_some hL_22
     refine wH_sr (h_opz (vB (decide ((k_15:Int) < (spots_1.length:Int)))) (h_nil ?_))
     refine wH_seq (wH_ift rfl (drop_cons hD_18) (wH_skip ?_))
     unfold ref_greatest_L1 at hc_21
     refine wH_seq (wH_block (wH_sr (h_opz (vI (k_15:Int)) (h_ia es26 rfl rfl (drop_idx hD_18) rfl wz (h_ldc sz69 ag69 rfl (.d (.agg (Spot.enc x_17))) rfl wz (h_alloc 0 (.inl rfl) z69 rfl wz (fun n_25=>h_opz (vI (k_15:Int)) (h_str 0 il ft 0 sz69 rfl rfl (Spot.v x_17) rfl wz (h_nil (wH_sr (h_opz (vI (k_5:Int)) (h_opz (vI (k_15:Int)) ?_))))))))))))
     obtain ⟨q_26,hz_27,hc_21⟩:=bind_some hc_21
     refine h_shr rfl rfl hz_27 wz (h_opz (vI (andI .i64 q_26 1)) (h_opz (vB ((andI .i64 q_26 1) == 1)) (h_nil ?_)))
     obtain ⟨v_28,h_29,hc_21⟩:=bind_some hc_21
     refine wH_joinU [(0,(vL Spot.enc spots_1)),(1,(vL Campaign.enc l_2)),(5,(vI s_10)),(6,(vI (k_5:Int))),(7,(vI v_28)),(17,(vI q_3)),(18,(vI (k_5:Int))),(21,(vL Spot.enc spots_1)),(22,(vI (spots_1.length:Int))),(23,(vI (k_15:Int)))] [(n_25,some (.cells 5 (Spot.v x_17)))] ?_ ?_
     ·rcases cond_some h_29 with⟨hc_30,h_29⟩ | ⟨hc_30,h_29⟩
      ·refine wH_ift rfl hc_30 (wH_region (h_opz (vI s_20) (h_far pl69_2 rfl 3 rfl wz (h_ldr 0 0 il ft sz3 ag3 rfl rfl (vI x_17.Room) rfl wz (h_opz (vI (w64 (s_20 + x_17.Room))) (h_opz (vI (w64 (s_20 + x_17.Room))) (h_nil ?_)))))))
       obtain rfl:=some_inj h_29
       exact cu
      ·refine wH_iff rfl hc_30 (wH_skip ?_)
       obtain rfl:=some_inj h_29
       exact cu
     ·rintro ⟨⟩ _ sl_ H_ hp_ hq_
      refine wH_at _ hp_ hq_ (wH_region (h_opw (w64_next hD_18 hn_19) wz rfl (h_opz (vI ((k_15 + 1:Nat):Int)) (h_nil ?_))))
      obtain rfl:=some_inj hc_21
      exact loop_mk (k_15 + 1,l_16,v_28) ⟨hL_22,drop_next hD_18⟩ (Nat.lt_succ_self _) rfl (pre_r rfl)
   ·rintro s_20 ho_ sl_ H_ hp_ hq_
    subst ho_
    refine wH_at _ hp_ hq_ (wH_seq (wH_sr (h_opz (vL Campaign.enc l_2) (h_len un27 rfl wz (h_opz (vI 0) (h_nil ?_))))))
    obtain ⟨o_39,hj_40,hc_11⟩:=bind_some hc_11
    obtain ⟨hn_35,hj_40⟩:=forL_some hj_40
    refine wH_loopF0 (fun (s_36:Int) => [(0,(vL Spot.enc spots_1)),(1,(vL Campaign.enc l_2)),(5,(vI s_10)),(7,(vI s_36)),(17,(vI q_3)),(18,(vI (k_5:Int)))]) (fun (s_36:Int) => []) (fun (k_31:Nat)=>(fun (s_36:Int) => [(0,(vL Spot.enc spots_1)),(1,(vL Campaign.enc l_2)),(5,(vI s_10)),(6,(vI (k_5:Int))),(7,(vI s_36)),(17,(vI q_3)),(18,(vI (k_5:Int))),(38,(vL Campaign.enc l_2)),(39,(vI (l_2.length:Int))),(40,(vI (k_31:Int)))])) (fun k x s=>ref_greatest_L3 spots_1 k_5 k x s) o_39 l_2 s_20 hj_40 rfl (pre_r rfl) ?_ ?_
    ·rintro ⟨k_31,l_32,s_36⟩ ⟨hL_38,hD_34⟩
     dsimp only at hL_38 hD_34
     cases l_32 with
     | nil =>
      obtain rfl:=some_inj hL_38
      refine wH_sr (h_opz (vB (decide ((k_31:Int) < (l_2.length:Int)))) (h_nil ?_))
      refine wH_seq (wH_iff rfl (drop_nil hD_34) (wH_exit ?_))
      exact cut_mk (s_36) rfl rfl (pre_r rfl)
     | cons x_33 l_32 =>
      obtain ⟨c_,hc_37,hL_38⟩:=bind_some hL_38
      refine wH_sr (h_opz (vB (decide ((k_31:Int) < (l_2.length:Int)))) (h_nil ?_))
      refine wH_seq (wH_ift rfl (drop_cons hD_34) (wH_skip ?_))
      unfold ref_greatest_L3 at hc_37
      refine wH_seq (wH_block (wH_sr (h_ia es27 rfl rfl (drop_idx hD_34) rfl wz (h_ldc sz37 ag37 rfl (.d (.agg (Campaign.enc x_33))) rfl wz (h_alloc 0 (.inl rfl) z37 rfl wz (fun n_41=>h_str 0 il ft 0 sz37 rfl rfl (Campaign.v x_33) rfl wz (h_nil (wH_sr (h_opz (vI 0) (h_nil (wH_seq (wH_sr (h_opz (vL Spot.enc spots_1) (h_len un26 rfl wz (h_opz (vI 0) (h_nil ?_))))))))))))))))
      obtain ⟨o_50,hj_51,hc_37⟩:=bind_some hc_37
      obtain ⟨hn_46,hj_51⟩:=forL_some hj_51
      refine wH_loopF0 (fun (s_47:Int) => [(0,(vL Spot.enc spots_1)),(1,(vL Campaign.enc l_2)),(5,(vI s_10)),(6,(vI (k_5:Int))),(7,(vI s_36)),(11,(.ref n_41 0 0)),(12,(vI s_47)),(17,(vI q_3)),(18,(vI (k_5:Int))),(38,(vL Campaign.enc l_2)),(39,(vI (l_2.length:Int))),(40,(vI (k_31:Int)))]) (fun (s_47:Int) => [(n_41,some (.cells 8 (Campaign.v x_33)))]) (fun (k_42:Nat)=>(fun (s_47:Int) => [(0,(vL Spot.enc spots_1)),(1,(vL Campaign.enc l_2)),(5,(vI s_10)),(6,(vI (k_5:Int))),(7,(vI s_36)),(11,(.ref n_41 0 0)),(12,(vI s_47)),(17,(vI q_3)),(18,(vI (k_5:Int))),(38,(vL Campaign.enc l_2)),(39,(vI (l_2.length:Int))),(40,(vI (k_31:Int))),(44,(vL Spot.enc spots_1)),(45,(vI (spots_1.length:Int))),(46,(vI (k_42:Int)))])) (fun k x s=>ref_greatest_L2 k_5 x_33 k x s) o_50 spots_1 0 hj_51 rfl (pre_r rfl) ?_ ?_
      ·rintro ⟨k_42,l_43,s_47⟩ ⟨hL_49,hD_45⟩
       dsimp only at hL_49 hD_45
       cases l_43 with
       | nil =>
        obtain rfl:=some_inj hL_49
        refine wH_sr (h_opz (vB (decide ((k_42:Int) < (spots_1.length:Int)))) (h_nil ?_))
        refine wH_seq (wH_iff rfl (drop_nil hD_45) (wH_exit ?_))
        exact cut_mk (s_47) rfl rfl (pre_r rfl)
       | cons x_44 l_43 =>
        obtain ⟨c_,hc_48,hL_49⟩:=bind_some hL_49
        refine wH_sr (h_opz (vB (decide ((k_42:Int) < (spots_1.length:Int)))) (h_nil ?_))
        refine wH_seq (wH_ift rfl (drop_cons hD_45) (wH_skip ?_))
        unfold ref_greatest_L2 at hc_48
        refine wH_seq (wH_block (wH_sr (h_opz (vI (k_42:Int)) (h_ia es26 rfl rfl (drop_idx hD_45) rfl wz (h_ldc sz69 ag69 rfl (.d (.agg (Spot.enc x_44))) rfl wz (h_alloc 0 (.inl rfl) z69 rfl wz (fun n_52=>h_opz (vI (k_42:Int)) (h_str 0 il ft 1 sz69 rfl rfl (Spot.v x_44) rfl wz (h_nil (wH_seq ?_))))))))))
        obtain ⟨v_53,h_54,hc_48⟩:=bind_some hc_48
        refine wH_joinU [(0,(vL Spot.enc spots_1)),(1,(vL Campaign.enc l_2)),(5,(vI s_10)),(6,(vI (k_5:Int))),(7,(vI s_36)),(11,(.ref n_41 0 0)),(12,(vI s_47)),(17,(vI q_3)),(18,(vI (k_5:Int))),(38,(vL Campaign.enc l_2)),(39,(vI (l_2.length:Int))),(40,(vI (k_31:Int))),(44,(vL Spot.enc spots_1)),(45,(vI (spots_1.length:Int))),(46,(vI (k_42:Int))),(60,(vB v_53))] [(n_41,some (.cells 8 (Campaign.v x_33))),(n_52,some (.cells 5 (Spot.v x_44)))] ?_ ?_
        ·refine wH_region (h_opz (vI (k_5:Int)) (h_opz (vI (k_42:Int)) ?_))
         obtain ⟨q_55,hz_56,h_54⟩:=bind_some h_54
         refine h_shr rfl rfl hz_56 wz (h_opz (vI (andI .i64 q_55 1)) (h_opz (vB ((andI .i64 q_55 1) == 0)) ?_))
         rcases cond_some h_54 with⟨hc_57,h_54⟩ | ⟨hc_57,h_54⟩
         ·refine h_movb rfl hc_57 wz (h_ldr 0 0 il ft sz37 ag37 rfl rfl (.d (.agg (Campaign.enc x_33))) rfl wa (h_ldr 0 1 il ft sz69 ag69 rfl rfl (.d (.agg (Spot.enc x_44))) rfl wa ?_))
          obtain ⟨r_58,hr_59,h_54⟩:=bind_some h_54
          refine h_call0 (ref_SuitsOf_ok hr_59) rfl hb44 rfl rfl rfl rfl wa (h_opz (vB r_58) (h_nil ?_))
          obtain rfl:=some_inj h_54
          exact cu
         ·refine h_movb rfl hc_57 wz (h_skipz (h_skipz (h_skipz (h_opz (vB false) (h_nil ?_)))))
          obtain rfl:=some_inj h_54
          exact cu
        ·rintro ⟨⟩ _ sl_ H_ hp_ hq_
         refine wH_at _ hp_ hq_ ?_
         obtain ⟨v_60,h_61,hc_48⟩:=bind_some hc_48
         refine wH_joinU [(0,(vL Spot.enc spots_1)),(1,(vL Campaign.enc l_2)),(5,(vI s_10)),(6,(vI (k_5:Int))),(7,(vI s_36)),(11,(.ref n_41 0 0)),(12,(vI v_60)),(17,(vI q_3)),(18,(vI (k_5:Int))),(38,(vL Campaign.enc l_2)),(39,(vI (l_2.length:Int))),(40,(vI (k_31:Int))),(44,(vL Spot.enc spots_1)),(45,(vI (spots_1.length:Int))),(46,(vI (k_42:Int)))] [(n_41,some (.cells 8 (Campaign.v x_33))),(n_52,some (.cells 5 (Spot.v x_44)))] ?_ ?_
         ·rcases cond_some h_61 with⟨hc_62,h_61⟩ | ⟨hc_62,h_61⟩
          ·refine wH_ift rfl hc_62 (wH_region (h_opz (vI s_47) (h_far pl37_5 rfl 6 rfl wz (h_ldr 0 0 il ft sz3 ag3 rfl rfl (vI x_33.Most) rfl wz (h_opz (vI (w64 (s_47 + x_33.Most))) (h_opz (vI (w64 (s_47 + x_33.Most))) (h_nil ?_)))))))
           obtain rfl:=some_inj h_61
           exact cu
          ·refine wH_iff rfl hc_62 (wH_skip ?_)
           obtain rfl:=some_inj h_61
           exact cu
         ·rintro ⟨⟩ _ sl_ H_ hp_ hq_
          refine wH_at _ hp_ hq_ (wH_region (h_opw (w64_next hD_45 hn_46) wz rfl (h_opz (vI ((k_42 + 1:Nat):Int)) (h_nil ?_))))
          obtain rfl:=some_inj hc_48
          exact loop_mk (k_42 + 1,l_43,v_60) ⟨hL_49,drop_next hD_45⟩ (Nat.lt_succ_self _) rfl (pre_r rfl)
      ·rintro s_47 ho_ sl_ H_ hp_ hq_
       subst ho_
       refine wH_at _ hp_ hq_ (wH_region (h_opz (vI s_36) (h_far pl37_4 rfl 5 rfl wz (h_ldr 0 0 il ft sz3 ag3 rfl rfl (vI x_33.Goal) rfl wz (h_opz (vI s_47) (h_minmax (vI (minI x_33.Goal s_47)) rfl (.inl rfl) wz (h_opz (vI (w64 (s_36 + (minI x_33.Goal s_47)))) (h_opz (vI (w64 (s_36 + (minI x_33.Goal s_47)))) (h_nil (wH_region (h_opw (w64_next hD_34 hn_35) wz rfl (h_opz (vI ((k_31 + 1:Nat):Int)) (h_nil ?_)))))))))))))
       obtain rfl:=some_inj hc_37
       exact loop_mk (k_31 + 1,l_32,(w64 (s_36 + (minI x_33.Goal s_47)))) ⟨hL_38,drop_next hD_34⟩ (Nat.lt_succ_self _) rfl (pre_r rfl)
    ·rintro s_36 ho_ sl_ H_ hp_ hq_
     subst ho_
     refine wH_at _ hp_ hq_ (wH_seq ?_)
     obtain ⟨v_63,h_64,hc_11⟩:=bind_some hc_11
     refine wH_joinU [(0,(vL Spot.enc spots_1)),(1,(vL Campaign.enc l_2)),(5,(vI s_10)),(7,(vI s_36)),(17,(vI q_3)),(18,(vI (k_5:Int))),(79,(vB v_63))] [] ?_ ?_
     ·refine wH_region (h_opz (vI s_10) (h_opz (vB (decide (s_10 < 0))) ?_))
      rcases cond_some h_64 with⟨hc_65,h_64⟩ | ⟨hc_65,h_64⟩
      ·refine h_movb rfl hc_65 wz (h_skipz (h_skipz (h_skipz (h_opz (vB true) (h_nil ?_)))))
       obtain rfl:=some_inj h_64
       exact cu
      ·refine h_movb rfl hc_65 wz (h_op (vI s_36) wa rfl (h_op (vI s_10) wa rfl (h_op (vB (decide (s_36 < s_10))) wa rfl (h_opz (vB (decide (s_36 < s_10))) (h_nil ?_)))))
       obtain rfl:=some_inj h_64
       exact cu
     ·rintro ⟨⟩ _ sl_ H_ hp_ hq_
      refine wH_at _ hp_ hq_ ?_
      obtain ⟨v_66,h_67,hc_11⟩:=bind_some hc_11
      refine wH_joinU [(0,(vL Spot.enc spots_1)),(1,(vL Campaign.enc l_2)),(5,(vI v_66)),(17,(vI q_3)),(18,(vI (k_5:Int)))] [] ?_ ?_
      ·rcases cond_some h_67 with⟨hc_68,h_67⟩ | ⟨hc_68,h_67⟩
       ·refine wH_ift rfl hc_68 (wH_region (h_opz (vI s_36) (h_opz (vI s_36) (h_nil ?_))))
        obtain rfl:=some_inj h_67
        exact cu
       ·refine wH_iff rfl hc_68 (wH_skip ?_)
        obtain rfl:=some_inj h_67
        exact cu
      ·rintro ⟨⟩ _ sl_ H_ hp_ hq_
       refine wH_at _ hp_ hq_ (wH_region (h_opw (w64_nextr hD_8 hn_9) wz rfl (h_opz (vI ((k_5 + 1:Nat):Int)) (h_nil ?_))))
       obtain rfl:=some_inj hc_11
       exact loop_mk (k_5 + 1,l_6,v_66) ⟨hL_12,drop_next hD_8⟩ (Nat.lt_succ_self _) rfl (pre_r rfl)
 ·rintro s_10 ho_ sl_ H_ hp_ hq_
  subst ho_
  refine wH_at _ hp_ hq_ (wH_sr (h_opz (vI s_10) (h_opz (vI s_10) (h_nil ?_))))
  obtain rfl:=some_inj hF
  exact wH_ret (fin0r [(vI s_10)] ⟨rfl,trivial⟩)
theorem ref_goals_ok {l_1:(List Campaign)} {r:Int} (hF:ref_goals l_1=some r) :
  FnM Try.prog 41 [(vL Campaign.enc l_1)] [] (vI r) []:=by
 refine FnM.of_wH ⟨Try.prog,18,[],[]⟩ rfl Try.func41 rfl rfl (Nat.le_of_ble_eq_true rfl) (by kernel_rfl) ?_
 unfold ref_goals at hF
 refine wH_sr (h_opz (vI 0) (h_nil (wH_sr (h_opz (vI 0) (h_nil (wH_seq (wH_sr (h_opz (vL Campaign.enc l_1) (h_len un27 rfl wz (h_opz (vI 0) (h_nil ?_)))))))))))
 obtain ⟨o_10,hj_11,hF⟩:=bind_some hF
 obtain ⟨hn_6,hj_11⟩:=forL_some hj_11
 refine wH_loopF0 (fun (s_7:Int) => [(3,(vI s_7))]) (fun (s_7:Int) => []) (fun (k_2:Nat)=>(fun (s_7:Int) => [(3,(vI s_7)),(6,(vL Campaign.enc l_1)),(7,(vI (l_1.length:Int))),(8,(vI (k_2:Int)))])) (fun k x s=>ref_goals_L1 k x s) o_10 l_1 0 hj_11 rfl (pre_r rfl) ?_ ?_
 ·rintro ⟨k_2,l_3,s_7⟩ ⟨hL_9,hD_5⟩
  dsimp only at hL_9 hD_5
  cases l_3 with
  | nil =>
   obtain rfl:=some_inj hL_9
   refine wH_sr (h_opz (vB (decide ((k_2:Int) < (l_1.length:Int)))) (h_nil ?_))
   refine wH_seq (wH_iff rfl (drop_nil hD_5) (wH_exit ?_))
   exact cut_mk (s_7) rfl rfl (pre_r rfl)
  | cons x_4 l_3 =>
   obtain ⟨c_,hc_8,hL_9⟩:=bind_some hL_9
   refine wH_sr (h_opz (vB (decide ((k_2:Int) < (l_1.length:Int)))) (h_nil ?_))
   refine wH_seq (wH_ift rfl (drop_cons hD_5) (wH_skip ?_))
   unfold ref_goals_L1 at hc_8
   refine wH_seq (wH_block (wH_sr (h_ia es27 rfl rfl (drop_idx hD_5) rfl wz (h_ldc sz37 ag37 rfl (.d (.agg (Campaign.enc x_4))) rfl wz (h_alloc 0 (.inl rfl) z37 rfl wz (fun n_12=>h_str 0 il ft 0 sz37 rfl rfl (Campaign.v x_4) rfl wz (h_nil (wH_region (h_opz (vI s_7) (h_far pl37_4 rfl 5 rfl wz (h_ldr 0 0 il ft sz3 ag3 rfl rfl (vI x_4.Goal) rfl wz (h_opz (vI (w64 (s_7 + x_4.Goal))) (h_opz (vI (w64 (s_7 + x_4.Goal))) (h_nil (wH_region (h_opw (w64_next hD_5 hn_6) wz rfl (h_opz (vI ((k_2 + 1:Nat):Int)) (h_nil ?_))))))))))))))))))
   obtain rfl:=some_inj hc_8
   exact loop_mk (k_2 + 1,l_3,(w64 (s_7 + x_4.Goal))) ⟨hL_9,drop_next hD_5⟩ (Nat.lt_succ_self _) rfl (pre_r rfl)
 ·rintro s_7 ho_ sl_ H_ hp_ hq_
  subst ho_
  refine wH_at _ hp_ hq_ (wH_sr (h_opz (vI s_7) (h_opz (vI s_7) (h_nil ?_))))
  obtain rfl:=some_inj hF
  exact wH_ret (fin0r [(vI s_7)] ⟨rfl,trivial⟩)
theorem ref_CanOf_ok {spots_1:(List Spot)} {l_2:(List Campaign)} {r:Bool} (hF:ref_CanOf spots_1 l_2=some r) :
  FnM Try.prog 39 [(vL Spot.enc spots_1),(vL Campaign.enc l_2)] [] (vB r) []:=by
 refine FnM.of_wH ⟨Try.prog,11,[],[]⟩ rfl Try.func39 rfl rfl (Nat.le_of_ble_eq_true rfl) (by kernel_rfl) ?_
 unfold ref_CanOf at hF
 refine wH_sr (h_opz (vB false) (h_nil (wH_sr (h_opz (vL Spot.enc spots_1) (h_opz (vL Campaign.enc l_2) ?_)))))
 obtain ⟨r_3,hr_4,hF⟩:=bind_some hF
 refine h_call0 (ref_greatest_ok hr_4) rfl hb40 rfl rfl rfl rfl wz (h_opz (vL Campaign.enc l_2) ?_)
 obtain ⟨r_5,hr_6,hF⟩:=bind_some hF
 refine h_call0 (ref_goals_ok hr_6) rfl hb41 rfl rfl rfl rfl wz (h_opz (vB (r_3 == r_5)) (h_opz (vB (r_3 == r_5)) (h_nil ?_)))
 obtain rfl:=some_inj hF
 exact wH_ret (fin0r [(vB (r_3 == r_5))] ⟨rfl,trivial⟩)
theorem ref_LeftOf_ok {spots_1:(List Spot)} {l_2:(List Campaign)} {c_3:Campaign} {r:Int×Bool} (hF:ref_LeftOf spots_1 l_2 c_3=some r) :
  FnM Try.prog 15 [(vL Spot.enc spots_1),(vL Campaign.enc l_2),(.d (.agg (Campaign.enc c_3)))] [] (.tup [(vI r.1),(vB r.2)]) []:=by
 refine FnM.of_wH ⟨Try.prog,23,[],[]⟩ rfl Try.func15 rfl rfl (Nat.le_of_ble_eq_true rfl) (by kernel_rfl) ?_
 unfold ref_LeftOf at hF
 refine wH_sr (h_box 0 (.inl rfl) (Campaign.v c_3) rfl rfl wz (fun n_4=>h_opz (vI 0) (h_opz (vB false) (h_nil (wH_seq (wH_sr (h_opz (vL Spot.enc spots_1) (h_opz (vL Campaign.enc l_2) ?_))))))))
 obtain ⟨r_5,hr_6,hF⟩:=bind_some hF
 refine h_call0 (ref_CanOf_ok hr_6) rfl hb39 rfl rfl rfl rfl wz (h_opz (vB (!r_5)) (h_nil ?_))
 rcases cond_some hF with⟨hc_7,hF⟩ | ⟨hc_7,hF⟩
 ·refine wH_ift rfl hc_7 (wH_sr (h_opz (vI 0) (h_opz (vB false) (h_nil ?_))))
  obtain rfl:=some_inj hF
  exact wH_ret (fin0r [(vI 0),(vB false)] ⟨rfl,⟨rfl,trivial⟩⟩)
 ·refine wH_iff rfl hc_7 (wH_skip (wH_sr (h_far pl37_4 rfl 5 rfl wz (h_str 0 il ft 0 sz3 rfl rfl [(vS c_3.Key),(vS c_3.Class),(vI c_3.Time.From),(vI c_3.Time.To),(vL eS c_3.Tags),(vI 1000000),(vI c_3.Most),(vI c_3.Cents)] rfl wz (h_nil (wH_seq (wH_draws (h_opz (vL Spot.enc spots_1) (h_opz (vL Campaign.enc l_2) ?_)))))))))
  obtain ⟨r_8,hr_9,hF⟩:=bind_some hF
  refine h_callgq 2 (.inr (by kernel_rfl)) (slices_Clone_api_Campaign_api_Campaign_okb hr_9) rfl hb30 (by kernel_rfl) (by kernel_rfl) (by kernel_rfl) wz (fun n_10=>h_ldr 3 0 (.inr (by kernel_rfl)) (fun _ _ ag=>⟨.inr (.inl (dis1 (ag_ne ag (i:=0) (j:=1) rfl rfl (by decide)))),trivial⟩) sz37 ag37 rfl rfl (.d (.agg (Campaign.enc (⟨c_3.Key,c_3.Class,c_3.Time,c_3.Tags,1000000,c_3.Most,c_3.Cents⟩:Campaign)))) rfl wz (h_lit (([(⟨c_3.Key,c_3.Class,c_3.Time,c_3.Tags,1000000,c_3.Most,c_3.Cents⟩:Campaign)]:List Campaign).map Campaign.enc) es27 ez27 rfl rfl rfl rfl rfl wz ?_))
  obtain ⟨a_11,hz_12,hF⟩:=bind_some hF
  refine h_appg 5 (.inr (by kernel_rfl)) (fun _ _ ag=>⟨.inr (.inr (by kernel_rfl)),⟨.inr (.inr (by kernel_rfl)),trivial⟩⟩) (i:=1) el27 el27 sz37 z37 rfl (by decide) by37 (by decide) (fun _=>rfl) rfl rfl rfl hz_12 wz (fun n_13 => ?_)
  obtain ⟨r_14,hr_15,hF⟩:=bind_some hF
  refine h_callv (bs := []) (os := []) 6 [] 1 1 (.inr (by kernel_rfl)) (fun _ _ ag=>by exact⟨.inr (.inr (by kernel_rfl)),⟨.inr (.inr (by kernel_rfl)),⟨.inr (.inr (by kernel_rfl)),trivial⟩⟩⟩) (FnM.unfz (args := [(vL Spot.enc spots_1),(dV (extN 0) 8 a_11)]) (po:=1) (enc:=Campaign.enc) (ref_greatest_ok hr_15) rfl rfl) rfl hb40 rfl rfl rfl (by kernel_rfl) rfl (.inl rfl) rfl (by kernel_rfl) (by kernel_rfl) (by kernel_rfl) (by kernel_rfl) rfl (by decide) (by kernel_rfl) gB_ok (gB_ho rfl) wz ([(n_4,some (.cells 8 [(vS c_3.Key),(vS c_3.Class),(vI c_3.Time.From),(vI c_3.Time.To),(vL eS c_3.Tags),(vI 1000000),(vI c_3.Most),(vI c_3.Cents)])),(n_13,gB 8 Campaign.enc a_11)]:Hp) (by kernel_rfl) (h_opz (vL Campaign.enc l_2) ?_)
  obtain ⟨r_16,hr_17,hF⟩:=bind_some hF
  refine h_call0 (ref_goals_ok hr_17) rfl hb41 rfl rfl rfl rfl wz (h_opz (vI (w64 (r_14 - r_16))) (h_opz (vI (w64 (r_14 - r_16))) (h_opz (vB true) (h_nil ?_))))
  obtain rfl:=some_inj hF
  exact wH_ret (fin0r [(vI (w64 (r_14 - r_16))),(vB true)] ⟨rfl,⟨rfl,trivial⟩⟩)
theorem kit_IsMoment_ok {n_1:Int} {r:Bool} (hF:kit_IsMoment n_1=some r) :
  FnM Try.prog 61 [(vI n_1)] [] (vB r) []:=by
 refine FnM.of_wH ⟨Try.prog,9,[],[]⟩ rfl Try.func61 rfl rfl (Nat.le_of_ble_eq_true rfl) (by kernel_rfl) ?_
 unfold kit_IsMoment at hF
 refine wH_sr (h_opz (vB false) (h_nil (wH_seq ?_)))
 obtain ⟨v_2,h_3,hF⟩:=bind_some hF
 refine wH_joinU [(2,(vB v_2))] [] ?_ ?_
 ·refine wH_region (h_opz (vI n_1) (h_opz (vB (decide (n_1≥0))) ?_))
  rcases cond_some h_3 with⟨hc_4,h_3⟩ | ⟨hc_4,h_3⟩
  ·refine h_movb rfl hc_4 wz (h_op (vI n_1) wa rfl (h_op (vB (decide (n_1 < 345686400000))) wa rfl (h_opz (vB (decide (n_1 < 345686400000))) (h_opz (vB (decide (n_1 < 345686400000))) (h_nil ?_)))))
   obtain rfl:=some_inj h_3
   exact cu
  ·refine h_movb rfl hc_4 wz (h_skipz (h_skipz (h_opz (vB false) (h_opz (vB false) (h_nil ?_)))))
   obtain rfl:=some_inj h_3
   exact cu
 ·rintro ⟨⟩ _ sl_ H_ hp_ hq_
  refine wH_at _ hp_ hq_ ?_
  obtain rfl:=some_inj hF
  exact wH_ret (fin0r [(vB v_2)] ⟨rfl,trivial⟩)
theorem booking_due_ok {c_1:Campaign} {atv_2:Int} {r:Int} (hF:booking_due c_1 atv_2=some r) :
  FnM Try.prog 62 [(.d (.agg (Campaign.enc c_1))),(vI atv_2)] [] (vI r) []:=by
 refine FnM.of_wH ⟨Try.prog,35,[],[]⟩ rfl Try.func62 rfl rfl (Nat.le_of_ble_eq_true rfl) (by kernel_rfl) ?_
 unfold booking_due at hF
 refine wH_sr (h_box 0 (.inl rfl) (Campaign.v c_1) rfl rfl wz (fun n_3=>h_opz (vI 0) (h_nil (wH_seq (wH_block (wH_sr (h_opz (vI atv_2) (h_far pl37_2 rfl 2 rfl wz (h_far pl34_0 rfl 2 rfl wz (h_ldr 0 0 il ft sz3 ag3 rfl rfl (vI c_1.Time.From) rfl wz (h_opz (vB (decide (atv_2 < c_1.Time.From))) (h_opz (vB (decide (atv_2 < c_1.Time.From))) (h_nil ?_)))))))))))))
 rcases cond_some hF with⟨hc_4,hF⟩ | ⟨hc_4,hF⟩
 ·refine wH_ift rfl hc_4 (wH_sr (h_opz (vI 0) (h_nil ?_)))
  obtain rfl:=some_inj hF
  exact wH_ret (fin0r [(vI 0)] ⟨rfl,trivial⟩)
 ·refine wH_iff rfl hc_4 (wH_sr (h_opz (vI atv_2) (h_far pl37_2 rfl 2 rfl wz (h_far pl34_1 rfl 3 rfl wz (h_ldr 0 0 il ft sz3 ag3 rfl rfl (vI c_1.Time.To) rfl wz (h_opz (vB (decide (atv_2≥c_1.Time.To))) (h_opz (vB (decide (atv_2≥c_1.Time.To))) (h_nil ?_))))))))
  rcases cond_some hF with⟨hc_5,hF⟩ | ⟨hc_5,hF⟩
  ·refine wH_ift rfl hc_5 (wH_sr (h_far pl37_4 rfl 5 rfl wz (h_ldr 0 0 il ft sz3 ag3 rfl rfl (vI c_1.Goal) rfl wz (h_opz (vI c_1.Goal) (h_nil ?_)))))
   obtain rfl:=some_inj hF
   exact wH_ret (fin0r [(vI c_1.Goal)] ⟨rfl,trivial⟩)
  ·refine wH_iff rfl hc_5 (wH_skip (wH_sr (h_far pl37_4 rfl 5 rfl wz (h_ldr 0 0 il ft sz3 ag3 rfl rfl (vI c_1.Goal) rfl wz (h_opz (vI atv_2) (h_far pl37_2 rfl 2 rfl wz (h_far pl34_0 rfl 2 rfl wz (h_ldr 0 0 il ft sz3 ag3 rfl rfl (vI c_1.Time.From) rfl wz (h_opz (vI (w64 (atv_2 - c_1.Time.From))) (h_opz (vI (w64 (c_1.Goal * (w64 (atv_2 - c_1.Time.From))))) (h_far pl37_2 rfl 2 rfl wz (h_far pl34_1 rfl 3 rfl wz (h_ldr 0 0 il ft sz3 ag3 rfl rfl (vI c_1.Time.To) rfl wz (h_far pl37_2 rfl 2 rfl wz (h_far pl34_0 rfl 2 rfl wz (h_ldr 0 0 il ft sz3 ag3 rfl rfl (vI c_1.Time.From) rfl wz (h_opz (vI (w64 (c_1.Time.To - c_1.Time.From))) ?_)))))))))))))))))
   obtain ⟨q_6,hz_7,hF⟩:=bind_some hF
   refine h_quo rfl rfl hz_7 wz (h_opz (vI q_6) (h_nil (wH_at (H0:=([(n_3,some (.cells 8 (Campaign.v c_1)))]:Hp)) ([(4,(vI q_6))]:List (Nat×V)) (by kernel_rfl) (pre_mk (by kernel_rfl)) ?_)))
   obtain rfl:=some_inj hF
   exact wH_ret (fin0r [(vI q_6)] ⟨rfl,trivial⟩)
theorem booking_Due_ok {c_1:Campaign} {atv_2:Int} {r:Int×Int} (hF:booking_Due c_1 atv_2=some r) :
  FnM Try.prog 42 [(.d (.agg (Campaign.enc c_1))),(vI atv_2)] [] (.tup [(vI r.1),(vI r.2)]) []:=by
 refine FnM.of_wH ⟨Try.prog,19,[],[]⟩ rfl Try.func42 rfl rfl (Nat.le_of_ble_eq_true rfl) (by kernel_rfl) ?_
 unfold booking_Due at hF
 refine wH_sr (h_box 0 (.inl rfl) (Campaign.v c_1) rfl rfl wz (fun n_3=>h_opz (vI 0) (h_opz (vI 0) (h_nil (wH_seq (wH_sr (h_ldr 0 0 il ft sz37 ag37 rfl rfl (.d (.agg (Campaign.enc c_1))) rfl wz (h_lit (([c_1]:List Campaign).map Campaign.enc) es27 ez27 rfl rfl rfl rfl rfl wz ?_))))))))
 obtain ⟨r_4,hr_5,hF⟩:=bind_some hF
 refine h_call0 (booking_CheckCampaigns_ok hr_5) rfl hb26 rfl rfl rfl rfl wz (h_opz (vI r_4) (h_nil (wH_sr (h_opz (vI r_4) (h_opz (vB (r_4 != 0)) (h_nil ?_))))))
 rcases cond_some hF with⟨hc_6,hF⟩ | ⟨hc_6,hF⟩
 ·refine wH_ift rfl hc_6 (wH_sr (h_opz (vI r_4) (h_opz (vI 0) (h_opz (vI r_4) (h_nil ?_)))))
  obtain rfl:=some_inj hF
  exact wH_ret (fin0r [(vI 0),(vI r_4)] ⟨rfl,⟨rfl,trivial⟩⟩)
 ·refine wH_iff rfl hc_6 (wH_skip (wH_seq (wH_sr (h_opz (vI atv_2) ?_))))
  obtain ⟨r_7,hr_8,hF⟩:=bind_some hF
  refine h_call0 (kit_IsMoment_ok hr_8) rfl hb61 rfl rfl rfl rfl wz (h_opz (vB (!r_7)) (h_nil ?_))
  rcases cond_some hF with⟨hc_9,hF⟩ | ⟨hc_9,hF⟩
  ·refine wH_ift rfl hc_9 (wH_sr (h_opz (vI 0) (h_opz (vI 1) (h_nil ?_))))
   obtain rfl:=some_inj hF
   exact wH_ret (fin0r [(vI 0),(vI 1)] ⟨rfl,⟨rfl,trivial⟩⟩)
  ·refine wH_iff rfl hc_9 (wH_skip (wH_sr (h_ldr 0 0 il ft sz37 ag37 rfl rfl (.d (.agg (Campaign.enc c_1))) rfl wz (h_opz (vI atv_2) ?_))))
   obtain ⟨r_10,hr_11,hF⟩:=bind_some hF
   refine h_call0 (booking_due_ok hr_11) rfl hb62 rfl rfl rfl rfl wz (h_opz (vI r_10) (h_opz (vI 0) (h_nil ?_)))
   obtain rfl:=some_inj hF
   exact wH_ret (fin0r [(vI r_10),(vI 0)] ⟨rfl,⟨rfl,trivial⟩⟩)
theorem law_booked_ok {r:Bool} (hF:law_booked  = some r) :
  FnM Try.prog 16 [] [] (vB r) []:=by
 refine FnM.of_wH ⟨Try.prog,15,[],[]⟩ rfl Try.func16 rfl rfl (Nat.le_of_ble_eq_true rfl) (by kernel_rfl) ?_
 unfold law_booked at hF
 refine wH_sr (h_opz (vB false) (h_nil (wH_sr (h_op (.d (.agg (Window.enc (⟨0,100⟩:Window)))) wz (by kernel_rfl) (h_op (.agg [(vS (⟨#[97]⟩:ByteArray)),(vS (⟨#[]⟩:ByteArray)),(vI 0),(vI 100),.nil,(vI 10),(vI 0),(vI 0)]) wz (by kernel_rfl) ?_)))))
 obtain ⟨r_1,hr_2,hF⟩:=bind_some hF
 refine h_call0 (booking_Due_ok hr_2) rfl hb42 rfl rfl rfl rfl wz (h_opz (.tup [(vI r_1.1),(vI r_1.2)]) (h_opz (vI r_1.1) (h_opz (vI r_1.2) (h_opz (vI r_1.1) (h_opz (vI r_1.2) (h_nil (wH_seq ?_)))))))
 obtain ⟨v_3,h_4,hF⟩:=bind_some hF
 refine wH_joinU [(0,(vB v_3))] [] ?_ ?_
 ·refine wH_region (h_opz (vI r_1.2) (h_opz (vB (r_1.2 == 0)) ?_))
  rcases cond_some h_4 with⟨hc_5,h_4⟩ | ⟨hc_5,h_4⟩
  ·refine h_movb rfl hc_5 wz (h_op (vI r_1.1) wa rfl (h_op (vB (r_1.1 == 5)) wa rfl (h_opz (vB (r_1.1 == 5)) (h_opz (vB (r_1.1 == 5)) (h_nil ?_)))))
   obtain rfl:=some_inj h_4
   exact cu
  ·refine h_movb rfl hc_5 wz (h_skipz (h_skipz (h_opz (vB false) (h_opz (vB false) (h_nil ?_)))))
   obtain rfl:=some_inj h_4
   exact cu
 ·rintro ⟨⟩ _ sl_ H_ hp_ hq_
  refine wH_at _ hp_ hq_ ?_
  obtain rfl:=some_inj hF
  exact wH_ret (fin0r [(vB v_3)] ⟨rfl,trivial⟩)
theorem ref_TightOf_ok {spots_1:(List Spot)} {l_2:(List Campaign)} {r:(List ByteArray)} (hF:ref_TightOf spots_1 l_2=some r) :
  FnM Try.prog 18 [(vL Spot.enc spots_1),(vL Campaign.enc l_2)] [] (vL eS r) []:=by
 refine FnM.of_wH ⟨Try.prog,47,[],[]⟩ rfl Try.func18 rfl rfl (Nat.le_of_ble_eq_true rfl) (by kernel_rfl) ?_
 unfold ref_TightOf at hF
 refine wH_sr (h_opz .nil (h_nil (wH_sr (h_opz .nil (h_nil (wH_sr (h_opz (vL Spot.enc spots_1) (h_opz (vL Campaign.enc l_2) ?_))))))))
 obtain ⟨r_3,hr_4,hF⟩:=bind_some hF
 refine h_call0 (ref_greatest_ok hr_4) rfl hb40 rfl rfl rfl rfl wz (h_opz (vI r_3) (h_nil (wH_seq (wH_sr (h_opz (vL Spot.enc spots_1) (h_len un26 rfl wz (h_opz (vI 0) (h_nil (wH_new (fun n_11 => ?_))))))))))
 obtain ⟨o_16,hj_17,hF⟩:=bind_some hF
 obtain ⟨hn_9,hj_17⟩:=forL_some hj_17
 refine wH_loopF (σ:=(List ByteArray)) (N:=Nm) (fun p=>(fun (s_10:(List ByteArray)) (n_13:Nm)=>([(5,(gV n_13 1 s_10))]:List (Nat×V))) p.1 p.2) (fun p=>(fun (s_10:(List ByteArray)) (n_13:Nm)=>([(n_13,gB 1 eS s_10)]:Hp)) p.1 p.2) (fun (k_5:Nat)=>(fun p=>(fun (s_10:(List ByteArray)) (n_13:Nm)=>([(0,(vL Spot.enc spots_1)),(1,(vL Campaign.enc l_2)),(5,(gV n_13 1 s_10)),(6,(vI r_3)),(13,(vL Spot.enc spots_1)),(14,(vI (spots_1.length:Int))),(15,(vI (k_5:Int)))]:List (Nat×V))) p.1 p.2)) (fun k x s=>ref_TightOf_L1 spots_1 l_2 r_3 k x s) o_16 spots_1 (([]:List ByteArray),n_11) hj_17 rfl (pre_r rfl) ?_ ?_
 ·rintro ⟨k_5,l_6,s_10,n_13⟩ ⟨hL_15,hD_8⟩
  dsimp only at hL_15 hD_8
  cases l_6 with
  | nil =>
   obtain rfl:=some_inj hL_15
   refine wH_sr (h_opz (vB (decide ((k_5:Int) < (spots_1.length:Int)))) (h_nil ?_))
   refine wH_seq (wH_iff rfl (drop_nil hD_8) (wH_exit ?_))
   exact cut_mk (s_10,n_13) rfl rfl (pre_r rfl)
  | cons x_7 l_6 =>
   obtain ⟨c_,hc_14,hL_15⟩:=bind_some hL_15
   refine wH_sr (h_opz (vB (decide ((k_5:Int) < (spots_1.length:Int)))) (h_nil ?_))
   refine wH_seq (wH_ift rfl (drop_cons hD_8) (wH_skip ?_))
   unfold ref_TightOf_L1 at hc_14
   refine wH_seq (wH_block (wH_sr (h_opz (vI (k_5:Int)) (h_ia es26 rfl rfl (drop_idx hD_8) rfl wz (h_ldc sz69 ag69 rfl (.d (.agg (Spot.enc x_7))) rfl wz (h_alloc 0 (.inl rfl) z69 rfl wz (fun n_18=>h_opz (vI (k_5:Int)) (h_str 0 il ft 1 sz69 rfl rfl (Spot.v x_7) rfl wz (h_nil (wH_sr (h_opz (vL Spot.enc spots_1) ?_)))))))))))
   obtain ⟨r_19,hr_20,hc_14⟩:=bind_some hc_14
   refine h_callg [] (slices_Clone_api_Spot_api_Spot_okb hr_20) rfl hb31 rfl (by kernel_rfl) (by kernel_rfl) (by kernel_rfl) (by kernel_rfl) (by kernel_rfl) rfl (by decide) (by kernel_rfl) wz ([(n_13,gB 1 eS s_10),(n_18,some (.cells 5 (Spot.v x_7)))]:Hp) (fun _=>by kernel_rfl) (fun n_22=>h_opz (gV n_22 5 r_19) (h_nil (wH_sr (h_opz (gV n_22 5 r_19) (h_opz (vI (k_5:Int)) ?_)))))
   obtain ⟨_,hi_23,hc_14⟩:=bind_some hc_14
   refine h_iavg es26 rfl rfl (inR_0 hi_23) (inR_lt hi_23) wz (h_far pl69_2 rfl 3 rfl wz ?_)
   obtain ⟨e_24,hy_25,hc_14⟩:=bind_some hc_14
   refine h_ldvg 0 2 il ft sz3 ag3 rfl rfl hy_25 (vI e_24.Room) rfl wz (h_opz (vI (w64 (e_24.Room - 1))) ?_)
   obtain ⟨_,hi_26,hc_14⟩:=bind_some hc_14
   refine h_iavg es26 rfl rfl (inR_0 hi_26) (inR_lt hi_26) wz (h_far pl69_2 rfl 3 rfl wz ?_)
   obtain ⟨e_27,hy_28,hc_14⟩:=bind_some hc_14
   refine h_stvg 0 il ft 2 sz3 rfl rfl hy_28 (⟨e_27.Key,e_27.Time,(w64 (e_24.Room - 1)),e_27.Tags⟩:Spot) rfl wz (h_re (v':=(gV n_22 5 (r_19.set (0 + ((k_5:Int)).toNat) (⟨e_27.Key,e_27.Time,(w64 (e_24.Room - 1)),e_27.Tags⟩:Spot)))) 9 rfl (gV_len (by simp)) (h_re (v':=(gV n_22 5 (r_19.set (0 + ((k_5:Int)).toNat) (⟨e_27.Key,e_27.Time,(w64 (e_24.Room - 1)),e_27.Tags⟩:Spot)))) 21 rfl (gV_len (by simp)) (h_re (v':=(gV n_22 5 (r_19.set (0 + ((k_5:Int)).toNat) (⟨e_27.Key,e_27.Time,(w64 (e_24.Room - 1)),e_27.Tags⟩:Spot)))) 22 rfl (gV_len (by simp)) (h_nil (wH_seq (wH_frozg 2 rfl (wH_cog 9 2 rfl rfl (wH_cog 21 2 rfl rfl (wH_cog 22 2 rfl rfl ?_)))))))))
   obtain ⟨v_29,h_30,hc_14⟩:=bind_some hc_14
   refine wH_joinU [(0,(vL Spot.enc spots_1)),(1,(vL Campaign.enc l_2)),(5,(gV n_13 1 s_10)),(6,(vI r_3)),(8,(.ref n_18 0 0)),(13,(vL Spot.enc spots_1)),(14,(vI (spots_1.length:Int))),(15,(vI (k_5:Int))),(39,(vB v_29))] [(n_13,gB 1 eS s_10),(n_18,some (.cells 5 (Spot.v x_7))),(n_22,gF 5 Spot.enc (r_19.set (0 + ((k_5:Int)).toNat) (⟨e_27.Key,e_27.Time,(w64 (e_24.Room - 1)),e_27.Tags⟩:Spot)))] ?_ ?_
   ·refine wH_region (h_far pl69_2 rfl 3 rfl wz (h_ldr 0 1 il ft sz3 ag3 rfl rfl (vI x_7.Room) rfl wz (h_opz (vB (decide (x_7.Room > 0))) ?_)))
    rcases cond_some h_30 with⟨hc_31,h_30⟩ | ⟨hc_31,h_30⟩
    ·refine h_movb rfl hc_31 wz (h_op (vL Spot.enc (r_19.set (0 + ((k_5:Int)).toNat) (⟨e_27.Key,e_27.Time,(w64 (e_24.Room - 1)),e_27.Tags⟩:Spot))) wa rfl (h_op (vL Campaign.enc l_2) wa rfl ?_))
     obtain ⟨r_32,hr_33,h_30⟩:=bind_some h_30
     refine h_call0 (ref_greatest_ok hr_33) rfl hb40 rfl rfl rfl rfl wa (h_op (vI r_3) wa rfl (h_op (vB (decide (r_32 < r_3))) wa rfl (h_opz (vB (decide (r_32 < r_3))) (h_nil ?_))))
     obtain rfl:=some_inj h_30
     exact cu
    ·refine h_movb rfl hc_31 wz (h_skipz (h_skipz (h_skipz (h_skipz (h_skipz (h_opz (vB false) (h_nil ?_)))))))
     obtain rfl:=some_inj h_30
     exact cu
   ·rintro ⟨⟩ _ sl_ H_ hp_ hq_
    refine wH_at _ hp_ hq_ ?_
    obtain ⟨v_34,h_35,hc_14⟩:=bind_some hc_14
    refine wH_join (β:=Nm) (fun (n_36:Nm)=>([(0,(vL Spot.enc spots_1)),(1,(vL Campaign.enc l_2)),(5,(gV n_36 1 v_34)),(6,(vI r_3)),(13,(vL Spot.enc spots_1)),(14,(vI (spots_1.length:Int))),(15,(vI (k_5:Int)))]:List (Nat×V))) (fun (n_36:Nm)=>([(n_36,gB 1 eS v_34),(n_18,some (.cells 5 (Spot.v x_7))),(n_22,gF 5 Spot.enc (r_19.set (0 + ((k_5:Int)).toNat) (⟨e_27.Key,e_27.Time,(w64 (e_24.Room - 1)),e_27.Tags⟩:Spot)))]:Hp)) (fun _=>True) ?_ ?_
    ·rcases cond_some h_35 with⟨hc_37,h_35⟩ | ⟨hc_37,h_35⟩
     ·refine wH_ift rfl hc_37 (wH_region (h_opz (gV n_13 1 s_10) (h_far pl69_0 rfl 0 rfl wz (h_ldr 0 1 il ft sz9 ag9 rfl rfl (vS x_7.Key) rfl wz (h_lit (([x_7.Key]:List ByteArray).map eS) es35 ez35 rfl rfl rfl rfl rfl wz ?_)))))
      obtain ⟨a_38,hz_39,h_35⟩:=bind_some h_35
      refine h_appg 0 il ft (i:=0) el35 el35 sz9 z9 rfl (by decide) by9 (by decide) (fun _=>rfl) rfl rfl rfl hz_39 wz (fun n_40=>h_opz (gV n_40 1 a_38) (h_nil ?_))
      obtain rfl:=some_inj h_35
      exact cut_mk n_40 trivial rfl (pre_r rfl)
     ·refine wH_iff rfl hc_37 (wH_skip ?_)
      obtain rfl:=some_inj h_35
      exact cut_mk n_13 trivial rfl (pre_r rfl)
    ·rintro n_36 _ sl_ H_ hp_ hq_
     refine wH_at _ hp_ hq_ (wH_region (h_opw (w64_next hD_8 hn_9) wz rfl (h_opz (vI ((k_5 + 1:Nat):Int)) (h_nil ?_))))
     obtain rfl:=some_inj hc_14
     exact loop_mk (k_5 + 1,l_6,v_34,n_36) ⟨hL_15,drop_next hD_8⟩ (Nat.lt_succ_self _) rfl (pre_r rfl)
 ·rintro ⟨s_10,n_13⟩ ho_ sl_ H_ hp_ hq_
  subst ho_
  refine wH_at _ hp_ hq_ (wH_sr (h_opz (gV n_13 1 s_10) (h_opz (gV n_13 1 s_10) (h_nil (wH_frozg 0 rfl (wH_cog 4 0 rfl rfl (wH_cog 5 0 rfl rfl (wH_cog 46 0 rfl rfl ?_))))))))
  obtain rfl:=some_inj hF
  exact wH_ret (fin0r [(vL eS s_10)] ⟨rfl,trivial⟩)
theorem slices_Equal_string_string_ok {s1_1:(List ByteArray)} {s2_2:(List ByteArray)} {r:Bool} (hF:slices_Equal_string_string s1_1 s2_2=some r) :
  FnM Try.prog 17 [(vL eS s1_1),(vL eS s2_2)] [] (vB r) []:=by
 refine FnM.of_wH ⟨Try.prog,26,[],[]⟩ rfl Try.func17 rfl rfl (Nat.le_of_ble_eq_true rfl) (by kernel_rfl) ?_
 unfold slices_Equal_string_string at hF
 refine wH_sr (h_opz (vB false) (h_nil (wH_seq (wH_sr (h_opz (vL eS s1_1) (h_len un35 rfl wz (h_opz (vL eS s2_2) (h_len un35 rfl wz (h_opz (vB ((s1_1.length:Int) != (s2_2.length:Int))) (h_nil ?_))))))))))
 rcases cond_some hF with⟨hc_3,hF⟩ | ⟨hc_3,hF⟩
 ·refine wH_ift rfl hc_3 (wH_sr (h_opz (vB false) (h_nil ?_)))
  obtain rfl:=some_inj hF
  exact wH_ret (fin0r [(vB false)] ⟨rfl,trivial⟩)
 ·refine wH_iff rfl hc_3 (wH_skip (wH_seq (wH_sr (h_opz (vL eS s1_1) (h_len un35 rfl wz (h_opz (vI 0) (h_nil ?_)))))))
  obtain ⟨o_12,hj_13,hF⟩:=bind_some hF
  obtain ⟨hn_8,hj_13⟩:=forL_some hj_13
  refine wH_loopF0 (fun (s_9:Unit) => []) (fun (s_9:Unit) => []) (fun (k_4:Nat)=>(fun (s_9:Unit) => [(0,(vL eS s1_1)),(1,(vL eS s2_2)),(12,(vI (s1_1.length:Int))),(13,(vI (k_4:Int)))])) (fun k x s=>slices_Equal_string_string_L1 s2_2 k x s) o_12 s1_1 () hj_13 rfl (pre_r rfl) ?_ ?_
  ·rintro ⟨k_4,l_5,s_9⟩ ⟨hL_11,hD_7⟩
   dsimp only at hL_11 hD_7
   cases l_5 with
   | nil =>
    obtain rfl:=some_inj hL_11
    refine wH_sr (h_opz (vB (decide ((k_4:Int) < (s1_1.length:Int)))) (h_nil ?_))
    refine wH_seq (wH_iff rfl (drop_nil hD_7) (wH_exit ?_))
    exact cut_mk (s_9) rfl rfl (pre_r rfl)
   | cons x_6 l_5 =>
    obtain ⟨c_,hc_10,hL_11⟩:=bind_some hL_11
    refine wH_sr (h_opz (vB (decide ((k_4:Int) < (s1_1.length:Int)))) (h_nil ?_))
    refine wH_seq (wH_ift rfl (drop_cons hD_7) (wH_skip ?_))
    unfold slices_Equal_string_string_L1 at hc_10
    refine wH_seq (wH_block (wH_sr (h_opz (vI (k_4:Int)) (h_opz (vI (k_4:Int)) (h_nil (wH_seq (wH_draws (h_opz (vL eS s1_1) (h_opz (vI (k_4:Int)) (h_ia es35 rfl rfl (drop_idx hD_7) rfl wz (h_ldc sz9 ag9 rfl (vS x_6) rfl wz (h_opz (vL eS s2_2) (h_opz (vI (k_4:Int)) ?_)))))))))))))
    obtain ⟨y_14,hy_15,hc_10⟩:=bind_some hc_10
    refine h_ia es35 rfl rfl hy_15 rfl wz (h_ldc sz9 ag9 rfl (vS y_14) rfl wz (h_opz (vB (sNe x_6 y_14)) (h_nil ?_)))
    rcases cond_some hc_10 with⟨hc_16,hc_10⟩ | ⟨hc_16,hc_10⟩
    ·refine wH_ift rfl hc_16 (wH_sr (h_opz (vB false) (h_nil ?_)))
     obtain rfl:=some_inj hc_10
     obtain rfl:=some_inj hL_11
     obtain rfl:=some_inj hF
     exact wH_ret (fin0r [(vB false)] ⟨rfl,trivial⟩)
    ·refine wH_iff rfl hc_16 (wH_skip (wH_region (h_opw (w64_next hD_7 hn_8) wz rfl (h_opz (vI ((k_4 + 1:Nat):Int)) (h_nil ?_)))))
     obtain rfl:=some_inj hc_10
     exact loop_mk (k_4 + 1,l_5,()) ⟨hL_11,drop_next hD_7⟩ (Nat.lt_succ_self _) rfl (pre_r rfl)
  ·rintro s_9 ho_ sl_ H_ hp_ hq_
   subst ho_
   refine wH_at _ hp_ hq_ (wH_sr (h_opz (vB true) (h_nil ?_)))
   obtain rfl:=some_inj hF
   exact wH_ret (fin0r [(vB true)] ⟨rfl,trivial⟩)
theorem ref_RivalsOf_1_ok {s_1:Spot} {p_2:Campaign} {p_3:Campaign} {r:Bool} (hF:ref_RivalsOf_1 s_1 p_2 p_3=some r) :
  FnM Try.prog 43 [(.d (.agg (Spot.enc s_1))),(.ref (extN 0) 0 0),(.ref (extN 1) 0 0)] [(.cells 8 (Campaign.v p_2)),(.cells 8 (Campaign.v p_3))] (vB r) [some (.cells 8 (Campaign.v p_2)),some (.cells 8 (Campaign.v p_3))]:=by
 refine FnM.of_wH ⟨Try.prog,13,[],[]⟩ rfl Try.func43 rfl rfl (Nat.le_of_ble_eq_true rfl) (by kernel_rfl) ?_
 unfold ref_RivalsOf_1 at hF
 refine wH_sr (h_box 0 (.inl rfl) (Spot.v s_1) rfl rfl wz (fun n_4=>h_opz (vB false) (h_nil (wH_seq ?_))))
 obtain ⟨v_5,h_6,hF⟩:=bind_some hF
 refine wH_joinU [(4,(vB v_5))] [((extN 0),some (.cells 8 (Campaign.v p_2))),((extN 1),some (.cells 8 (Campaign.v p_3))),(n_4,some (.cells 5 (Spot.v s_1)))] ?_ ?_
 ·refine wH_region (h_ldr 0 0 il ft sz37 ag37 rfl rfl (.d (.agg (Campaign.enc p_2))) rfl wz (h_ldr 0 2 il ft sz69 ag69 rfl rfl (.d (.agg (Spot.enc s_1))) rfl wz ?_))
  obtain ⟨r_7,hr_8,h_6⟩:=bind_some h_6
  refine h_call0 (ref_SuitsOf_ok hr_8) rfl hb44 rfl rfl rfl rfl wz ?_
  rcases cond_some h_6 with⟨hc_9,h_6⟩ | ⟨hc_9,h_6⟩
  ·refine h_movb rfl hc_9 wz (h_ldr 0 1 il ft sz37 ag37 rfl rfl (.d (.agg (Campaign.enc p_3))) rfl wa (h_ldr 0 2 il ft sz69 ag69 rfl rfl (.d (.agg (Spot.enc s_1))) rfl wa ?_))
   obtain ⟨r_10,hr_11,h_6⟩:=bind_some h_6
   refine h_call0 (ref_SuitsOf_ok hr_11) rfl hb44 rfl rfl rfl rfl wa (h_opz (vB r_10) (h_opz (vB r_10) (h_nil ?_)))
   obtain rfl:=some_inj h_6
   exact cu
  ·refine h_movb rfl hc_9 wz (h_skipz (h_skipz (h_skipz (h_opz (vB false) (h_opz (vB false) (h_nil ?_))))))
   obtain rfl:=some_inj h_6
   exact cu
 ·rintro ⟨⟩ _ sl_ H_ hp_ hq_
  refine wH_at _ hp_ hq_ ?_
  obtain rfl:=some_inj hF
  exact wH_ret (finB (.inr rfl) [(vB v_5)] _ [0,1] [extN 0,extN 1] ⟨rfl,trivial⟩ (.cons (co_data rfl rfl) (.nil)) (by kernel_rfl) ⟨(by kernel_rfl),⟨(by kernel_rfl),trivial⟩⟩ (by decide) (by kernel_rfl))
theorem ref_RivalsOf_ok {spots_1:(List Spot)} {l_2:(List Campaign)} {r:(List Pair)} (hF:ref_RivalsOf spots_1 l_2=some r) :
  FnM Try.prog 20 [(vL Spot.enc spots_1),(vL Campaign.enc l_2)] [] (vL Pair.enc r) []:=by
 refine FnM.of_wH ⟨Try.prog,52,[],[]⟩ rfl Try.func20 rfl rfl (Nat.le_of_ble_eq_true rfl) (by kernel_rfl) ?_
 unfold ref_RivalsOf at hF
 refine wH_sr (h_opz .nil (h_nil (wH_sr (h_opz .nil (h_nil (wH_seq (wH_sr (h_opz (vL Campaign.enc l_2) (h_len un27 rfl wz (h_opz (vI 0) (h_nil (wH_new (fun n_9 => ?_)))))))))))))
 obtain ⟨o_14,hj_15,hF⟩:=bind_some hF
 obtain ⟨hn_7,hj_15⟩:=forL_some hj_15
 refine wH_loopF (σ:=(List Pair)) (N:=Nm) (fun p=>(fun (s_8:(List Pair)) (n_11:Nm)=>([(5,(gV n_11 2 s_8))]:List (Nat×V))) p.1 p.2) (fun p=>(fun (s_8:(List Pair)) (n_11:Nm)=>([(n_11,gB 2 Pair.enc s_8)]:Hp)) p.1 p.2) (fun (k_3:Nat)=>(fun p=>(fun (s_8:(List Pair)) (n_11:Nm)=>([(0,(vL Spot.enc spots_1)),(1,(vL Campaign.enc l_2)),(5,(gV n_11 2 s_8)),(10,(vL Campaign.enc l_2)),(11,(vI (l_2.length:Int))),(12,(vI (k_3:Int)))]:List (Nat×V))) p.1 p.2)) (fun k x s=>ref_RivalsOf_L2 l_2 spots_1 k x s) o_14 l_2 (([]:List Pair),n_9) hj_15 rfl (pre_r rfl) ?_ ?_
 ·rintro ⟨k_3,l_4,s_8,n_11⟩ ⟨hL_13,hD_6⟩
  dsimp only at hL_13 hD_6
  cases l_4 with
  | nil =>
   obtain rfl:=some_inj hL_13
   refine wH_sr (h_opz (vB (decide ((k_3:Int) < (l_2.length:Int)))) (h_nil ?_))
   refine wH_seq (wH_iff rfl (drop_nil hD_6) (wH_exit ?_))
   exact cut_mk (s_8,n_11) rfl rfl (pre_r rfl)
  | cons x_5 l_4 =>
   obtain ⟨c_,hc_12,hL_13⟩:=bind_some hL_13
   refine wH_sr (h_opz (vB (decide ((k_3:Int) < (l_2.length:Int)))) (h_nil ?_))
   refine wH_seq (wH_ift rfl (drop_cons hD_6) (wH_skip ?_))
   unfold ref_RivalsOf_L2 at hc_12
   refine wH_seq (wH_block (wH_sr (h_opz (vI (k_3:Int)) (h_ia es27 rfl rfl (drop_idx hD_6) rfl wz (h_ldc sz37 ag37 rfl (.d (.agg (Campaign.enc x_5))) rfl wz (h_alloc 0 (.inl rfl) z37 rfl wz (fun n_16=>h_opz (vI (k_3:Int)) (h_str 0 il ft 1 sz37 rfl rfl (Campaign.v x_5) rfl wz (h_nil (wH_sr (h_opz (vL Campaign.enc l_2) (h_opz (vI (k_3:Int)) (h_opz (vI (w64 ((k_3:Int) + 1))) ?_)))))))))))))
   obtain ⟨y_17,hy_18,hc_12⟩:=bind_some hc_12
   refine h_sublTrueFalse un27 sz37 (fun _=>rfl) rfl rfl hy_18 wz (h_len un27 rfl wz (h_opz (vI 0) (h_nil ?_)))
   obtain ⟨o_29,hj_30,hc_12⟩:=bind_some hc_12
   obtain ⟨hn_23,hj_30⟩:=forL_some hj_30
   refine wH_loopF (σ:=(List Pair)) (N:=Nm) (fun p=>(fun (s_24:(List Pair)) (n_26:Nm)=>([(0,(vL Spot.enc spots_1)),(1,(vL Campaign.enc l_2)),(5,(gV n_26 2 s_24)),(10,(vL Campaign.enc l_2)),(11,(vI (l_2.length:Int))),(12,(vI (k_3:Int)))]:List (Nat×V))) p.1 p.2) (fun p=>(fun (s_24:(List Pair)) (n_26:Nm)=>([(n_26,gB 2 Pair.enc s_24),(n_16,some (.cells 8 (Campaign.v x_5)))]:Hp)) p.1 p.2) (fun (k_19:Nat)=>(fun p=>(fun (s_24:(List Pair)) (n_26:Nm)=>([(0,(vL Spot.enc spots_1)),(1,(vL Campaign.enc l_2)),(5,(gV n_26 2 s_24)),(7,(.ref n_16 0 0)),(10,(vL Campaign.enc l_2)),(11,(vI (l_2.length:Int))),(12,(vI (k_3:Int))),(20,(vL Campaign.enc y_17)),(21,(vI (y_17.length:Int))),(22,(vI (k_19:Int)))]:List (Nat×V))) p.1 p.2)) (fun k x s=>ref_RivalsOf_L1 x_5 spots_1 k x s) o_29 y_17 (s_8,n_11) hj_30 rfl (pre_r rfl) ?_ ?_
   ·rintro ⟨k_19,l_20,s_24,n_26⟩ ⟨hL_28,hD_22⟩
    dsimp only at hL_28 hD_22
    cases l_20 with
    | nil =>
     obtain rfl:=some_inj hL_28
     refine wH_sr (h_opz (vB (decide ((k_19:Int) < (y_17.length:Int)))) (h_nil ?_))
     refine wH_seq (wH_iff rfl (drop_nil hD_22) (wH_exit ?_))
     exact cut_mk (s_24,n_26) rfl rfl (pre_r rfl)
    | cons x_21 l_20 =>
     obtain ⟨c_,hc_27,hL_28⟩:=bind_some hL_28
     refine wH_sr (h_opz (vB (decide ((k_19:Int) < (y_17.length:Int)))) (h_nil ?_))
     refine wH_seq (wH_ift rfl (drop_cons hD_22) (wH_skip ?_))
     unfold ref_RivalsOf_L1 at hc_27
     refine wH_seq (wH_block (wH_sr (h_ia es27 rfl rfl (drop_idx hD_22) rfl wz (h_ldc sz37 ag37 rfl (.d (.agg (Campaign.enc x_21))) rfl wz (h_alloc 0 (.inl rfl) z37 rfl wz (fun n_31=>h_str 0 il ft 2 sz37 rfl rfl (Campaign.v x_21) rfl wz (h_nil (wH_seq ?_))))))))
     obtain ⟨v_32,h_33,hc_27⟩:=bind_some hc_27
     refine wH_joinU [(0,(vL Spot.enc spots_1)),(1,(vL Campaign.enc l_2)),(5,(gV n_26 2 s_24)),(7,(.ref n_16 0 0)),(9,(.ref n_31 0 0)),(10,(vL Campaign.enc l_2)),(11,(vI (l_2.length:Int))),(12,(vI (k_3:Int))),(20,(vL Campaign.enc y_17)),(21,(vI (y_17.length:Int))),(22,(vI (k_19:Int))),(40,(vB v_32))] [(n_26,gB 2 Pair.enc s_24),(n_16,some (.cells 8 (Campaign.v x_5))),(n_31,some (.cells 8 (Campaign.v x_21)))] ?_ ?_
     ·refine wH_region (h_far pl37_1 rfl 1 rfl wz (h_ldr 0 1 il ft sz9 ag9 rfl rfl (vS x_5.Class) rfl wz (h_opz (vB (sNe x_5.Class (⟨#[]⟩:ByteArray))) ?_)))
      rcases cond_some h_33 with⟨hc_34,h_33⟩ | ⟨hc_34,h_33⟩
      ·refine h_movb rfl hc_34 wz (h_far pl37_1 rfl 1 rfl wa (h_ldr 0 1 il ft sz9 ag9 rfl rfl (vS x_5.Class) rfl wa (h_far pl37_1 rfl 1 rfl wa (h_ldr 0 2 il ft sz9 ag9 rfl rfl (vS x_21.Class) rfl wa (h_op (vB (sEq x_5.Class x_21.Class)) wa rfl (h_opz (vB (sEq x_5.Class x_21.Class)) ?_))))))
       rcases cond_some h_33 with⟨hc_35,h_33⟩ | ⟨hc_35,h_33⟩
       ·refine h_movb rfl hc_35 wz (h_op (vL Spot.enc spots_1) wa rfl (h_op (.fn 43 [(.ref n_16 0 0),(.ref n_31 0 0)]) wa rfl ?_))
        obtain ⟨r_36,hr_37,h_33⟩:=bind_some h_33
        refine h_callq 0 [1,2] il ft (slices_ContainsFunc_api_Spot_api_Spot_ok (gid:=43) (caps := [.ref (extN 0) 0 0,.ref (extN 1) 0 0]) (Sin := [(.cells 8 (Campaign.v x_5)),(.cells 8 (Campaign.v x_21))]) (fun _ _ h_=>ref_RivalsOf_1_ok h_) hb43 ⟨rfl,rfl⟩ (by kernel_rfl) (all_ok (by kernel_rfl)) (all_mut (by kernel_rfl)) hr_37) rfl hb32 rfl (by kernel_rfl) (by kernel_rfl) (by kernel_rfl) (by kernel_rfl) (by kernel_rfl) (by kernel_rfl) (by kernel_rfl) (by decide) (by kernel_rfl) wa (vB r_36) (by kernel_rfl) ([(n_26,gB 2 Pair.enc s_24),(n_16,some (.cells 8 (Campaign.v x_5))),(n_31,some (.cells 8 (Campaign.v x_21)))]:Hp) (by kernel_rfl) (h_opz (vB r_36) (h_nil ?_))
        obtain rfl:=some_inj h_33
        exact cu
       ·refine h_movb rfl hc_35 wz (h_skipz (h_skipz (h_skipz (h_opz (vB false) (h_nil ?_)))))
        obtain rfl:=some_inj h_33
        exact cu
      ·refine h_movb rfl hc_34 wz (h_skipz (h_skipz (h_skipz (h_skipz (h_skipz (h_opz (vB false) (h_opz (vB false) (h_skipz (h_skipz (h_skipz (h_opz (vB false) (h_nil ?_))))))))))))
       obtain rfl:=some_inj h_33
       exact cu
     ·rintro ⟨⟩ _ sl_ H_ hp_ hq_
      refine wH_at _ hp_ hq_ ?_
      obtain ⟨v_39,h_40,hc_27⟩:=bind_some hc_27
      refine wH_join (β:=Nm) (fun (n_41:Nm)=>([(0,(vL Spot.enc spots_1)),(1,(vL Campaign.enc l_2)),(5,(gV n_41 2 v_39)),(7,(.ref n_16 0 0)),(10,(vL Campaign.enc l_2)),(11,(vI (l_2.length:Int))),(12,(vI (k_3:Int))),(20,(vL Campaign.enc y_17)),(21,(vI (y_17.length:Int))),(22,(vI (k_19:Int)))]:List (Nat×V))) (fun (n_41:Nm)=>([(n_41,gB 2 Pair.enc v_39),(n_16,some (.cells 8 (Campaign.v x_5))),(n_31,some (.cells 8 (Campaign.v x_21)))]:Hp)) (fun _=>True) ?_ ?_
      ·rcases cond_some h_40 with⟨hc_42,h_40⟩ | ⟨hc_42,h_40⟩
       ·refine wH_ift rfl hc_42 (wH_region (h_opz (gV n_26 2 s_24) (h_far pl37_0 rfl 0 rfl wz (h_ldr 0 1 il ft sz9 ag9 rfl rfl (vS x_5.Key) rfl wz (h_far pl37_0 rfl 0 rfl wz (h_ldr 0 2 il ft sz9 ag9 rfl rfl (vS x_21.Key) rfl wz (h_op (.d (.agg (Pair.enc (⟨x_5.Key,x_21.Key⟩:Pair)))) wz (by kernel_rfl) (h_lit (([(⟨x_5.Key,x_21.Key⟩:Pair)]:List Pair).map Pair.enc) es42 ez42 rfl rfl rfl rfl rfl wz ?_))))))))
        obtain ⟨a_43,hz_44,h_40⟩:=bind_some h_40
        refine h_appg 0 il ft (i:=0) el42 el42 sz57 z57 rfl (by decide) by57 (by decide) (fun _=>rfl) rfl rfl rfl hz_44 wz (fun n_45=>h_opz (gV n_45 2 a_43) (h_nil ?_))
        obtain rfl:=some_inj h_40
        exact cut_mk n_45 trivial rfl (pre_r rfl)
       ·refine wH_iff rfl hc_42 (wH_skip ?_)
        obtain rfl:=some_inj h_40
        exact cut_mk n_26 trivial rfl (pre_r rfl)
      ·rintro n_41 _ sl_ H_ hp_ hq_
       refine wH_at _ hp_ hq_ (wH_region (h_opw (w64_next hD_22 hn_23) wz rfl (h_opz (vI ((k_19 + 1:Nat):Int)) (h_nil ?_))))
       obtain rfl:=some_inj hc_27
       exact loop_mk (k_19 + 1,l_20,v_39,n_41) ⟨hL_28,drop_next hD_22⟩ (Nat.lt_succ_self _) rfl (pre_r rfl)
   ·rintro ⟨s_24,n_26⟩ ho_ sl_ H_ hp_ hq_
    subst ho_
    refine wH_at _ hp_ hq_ (wH_region (h_opw (w64_next hD_6 hn_7) wz rfl (h_opz (vI ((k_3 + 1:Nat):Int)) (h_nil ?_))))
    obtain rfl:=some_inj hc_12
    exact loop_mk (k_3 + 1,l_4,s_24,n_26) ⟨hL_13,drop_next hD_6⟩ (Nat.lt_succ_self _) rfl (pre_r rfl)
 ·rintro ⟨s_8,n_11⟩ ho_ sl_ H_ hp_ hq_
  subst ho_
  refine wH_at _ hp_ hq_ (wH_sr (h_opz (gV n_11 2 s_8) (h_opz (gV n_11 2 s_8) (h_nil (wH_frozg 0 rfl (wH_cog 4 0 rfl rfl (wH_cog 5 0 rfl rfl (wH_cog 51 0 rfl rfl ?_))))))))
  obtain rfl:=some_inj hF
  exact wH_ret (fin0r [(vL Pair.enc s_8)] ⟨rfl,trivial⟩)
theorem slices_Equal_api_Pair_api_Pair_ok {s1_1:(List Pair)} {s2_2:(List Pair)} {r:Bool} (hF:slices_Equal_api_Pair_api_Pair s1_1 s2_2=some r) :
  FnM Try.prog 19 [(vL Pair.enc s1_1),(vL Pair.enc s2_2)] [] (vB r) []:=by
 refine FnM.of_wH ⟨Try.prog,26,[],[]⟩ rfl Try.func19 rfl rfl (Nat.le_of_ble_eq_true rfl) (by kernel_rfl) ?_
 unfold slices_Equal_api_Pair_api_Pair at hF
 refine wH_sr (h_opz (vB false) (h_nil (wH_seq (wH_sr (h_opz (vL Pair.enc s1_1) (h_len un42 rfl wz (h_opz (vL Pair.enc s2_2) (h_len un42 rfl wz (h_opz (vB ((s1_1.length:Int) != (s2_2.length:Int))) (h_nil ?_))))))))))
 rcases cond_some hF with⟨hc_3,hF⟩ | ⟨hc_3,hF⟩
 ·refine wH_ift rfl hc_3 (wH_sr (h_opz (vB false) (h_nil ?_)))
  obtain rfl:=some_inj hF
  exact wH_ret (fin0r [(vB false)] ⟨rfl,trivial⟩)
 ·refine wH_iff rfl hc_3 (wH_skip (wH_seq (wH_sr (h_opz (vL Pair.enc s1_1) (h_len un42 rfl wz (h_opz (vI 0) (h_nil ?_)))))))
  obtain ⟨o_12,hj_13,hF⟩:=bind_some hF
  obtain ⟨hn_8,hj_13⟩:=forL_some hj_13
  refine wH_loopF0 (fun (s_9:Unit) => []) (fun (s_9:Unit) => []) (fun (k_4:Nat)=>(fun (s_9:Unit) => [(0,(vL Pair.enc s1_1)),(1,(vL Pair.enc s2_2)),(12,(vI (s1_1.length:Int))),(13,(vI (k_4:Int)))])) (fun k x s=>slices_Equal_api_Pair_api_Pair_L1 s2_2 k x s) o_12 s1_1 () hj_13 rfl (pre_r rfl) ?_ ?_
  ·rintro ⟨k_4,l_5,s_9⟩ ⟨hL_11,hD_7⟩
   dsimp only at hL_11 hD_7
   cases l_5 with
   | nil =>
    obtain rfl:=some_inj hL_11
    refine wH_sr (h_opz (vB (decide ((k_4:Int) < (s1_1.length:Int)))) (h_nil ?_))
    refine wH_seq (wH_iff rfl (drop_nil hD_7) (wH_exit ?_))
    exact cut_mk (s_9) rfl rfl (pre_r rfl)
   | cons x_6 l_5 =>
    obtain ⟨c_,hc_10,hL_11⟩:=bind_some hL_11
    refine wH_sr (h_opz (vB (decide ((k_4:Int) < (s1_1.length:Int)))) (h_nil ?_))
    refine wH_seq (wH_ift rfl (drop_cons hD_7) (wH_skip ?_))
    unfold slices_Equal_api_Pair_api_Pair_L1 at hc_10
    refine wH_seq (wH_block (wH_sr (h_opz (vI (k_4:Int)) (h_opz (vI (k_4:Int)) (h_nil (wH_seq (wH_draws (h_opz (vL Pair.enc s1_1) (h_opz (vI (k_4:Int)) (h_ia es42 rfl rfl (drop_idx hD_7) rfl wz (h_ldc sz57 ag57 rfl (.d (.agg (Pair.enc x_6))) rfl wz (h_opz (vL Pair.enc s2_2) (h_opz (vI (k_4:Int)) ?_)))))))))))))
    obtain ⟨y_14,hy_15,hc_10⟩:=bind_some hc_10
    refine h_ia es42 rfl rfl hy_15 rfl wz (h_ldc sz57 ag57 rfl (.d (.agg (Pair.enc y_14))) rfl wz (h_op (vB (!((x_6.Name.toList == y_14.Name.toList) && ((x_6.Value.toList == y_14.Value.toList) && true)))) wz (by kernel_rfl) (h_nil ?_)))
    rcases cond_some hc_10 with⟨hc_16,hc_10⟩ | ⟨hc_16,hc_10⟩
    ·refine wH_ift rfl hc_16 (wH_sr (h_opz (vB false) (h_nil ?_)))
     obtain rfl:=some_inj hc_10
     obtain rfl:=some_inj hL_11
     obtain rfl:=some_inj hF
     exact wH_ret (fin0r [(vB false)] ⟨rfl,trivial⟩)
    ·refine wH_iff rfl hc_16 (wH_skip (wH_region (h_opw (w64_next hD_7 hn_8) wz rfl (h_opz (vI ((k_4 + 1:Nat):Int)) (h_nil ?_)))))
     obtain rfl:=some_inj hc_10
     exact loop_mk (k_4 + 1,l_5,()) ⟨hL_11,drop_next hD_7⟩ (Nat.lt_succ_self _) rfl (pre_r rfl)
  ·rintro s_9 ho_ sl_ H_ hp_ hq_
   subst ho_
   refine wH_at _ hp_ hq_ (wH_sr (h_opz (vB true) (h_nil ?_)))
   obtain rfl:=some_inj hF
   exact wH_ret (fin0r [(vB true)] ⟨rfl,trivial⟩)
theorem law_RoomLeft_ok {l_1:(List Int)} {r:Bool} (hF:law_RoomLeft l_1=some r) :
  FnM Try.prog 3 [(vL eI l_1)] [] (vB r) []:=by
 refine FnM.of_wH ⟨Try.prog,130,[],[]⟩ rfl Try.func3 rfl rfl (Nat.le_of_ble_eq_true rfl) (by kernel_rfl) ?_
 unfold law_RoomLeft at hF
 refine wH_sr (h_opz (vB false) (h_nil (wH_sr (h_opz (vL eI l_1) (h_op (.d (.agg (Stream.enc (⟨l_1,0⟩:Stream)))) wz (by kernel_rfl) (h_box 0 (.inl rfl) [(vL eI l_1),(vI 0)] rfl rfl wz (fun n_2=>h_opz (.ref n_2 0 0) (h_nil (wH_sr (h_opz (.ref n_2 0 0) ?_))))))))))
 obtain ⟨r_3,hr_4,hF⟩:=bind_some hF
 refine h_callq 0 [0] il ft (law_office_ok hr_4) rfl hb4 rfl (by kernel_rfl) (by kernel_rfl) (by kernel_rfl) (by kernel_rfl) (by kernel_rfl) (by kernel_rfl) (by kernel_rfl) (by decide) (by kernel_rfl) wz (.tup [(vL Spot.enc r_3.1),(vL Campaign.enc r_3.2.1),(vI r_3.2.2.1)]) (by kernel_rfl) ([(n_2,some (.cells 2 [(vL eI r_3.2.2.2.L),(vI r_3.2.2.2.f_at)]))]:Hp) (by kernel_rfl) (h_opz (.tup [(vL Spot.enc r_3.1),(vL Campaign.enc r_3.2.1),(vI r_3.2.2.1)]) (h_opz (vL Spot.enc r_3.1) (h_opz (vL Campaign.enc r_3.2.1) (h_opz (vI r_3.2.2.1) (h_opz (vL Spot.enc r_3.1) (h_opz (vL Campaign.enc r_3.2.1) (h_opz (vI r_3.2.2.1) (h_nil (wH_sr (h_opz (.ref n_2 0 0) (h_lit (([(⟨#[99,101]⟩:ByteArray),(⟨#[99,101]⟩:ByteArray),(⟨#[99,101]⟩:ByteArray),(⟨#[99,97]⟩:ByteArray),(⟨#[]⟩:ByteArray)]:List ByteArray).map eS) es35 ez35 rfl rfl rfl rfl rfl wz ?_)))))))))))
 obtain ⟨r_6,hr_7,hF⟩:=bind_some hF
 refine h_callq 0 [0] il ft (mk_Stream_Some_ok hr_7) rfl hb5 rfl (by kernel_rfl) (by kernel_rfl) (by kernel_rfl) (by kernel_rfl) (by kernel_rfl) (by kernel_rfl) (by kernel_rfl) (by decide) (by kernel_rfl) wz (vS r_6.1) (by kernel_rfl) ([(n_2,some (.cells 2 [(vL eI r_6.2.L),(vI r_6.2.f_at)]))]:Hp) (by kernel_rfl) (h_opz (.ref n_2 0 0) (h_lit (([0,10]:List Int).map eI) es22 ez22 rfl rfl rfl rfl rfl wz ?_))
 obtain ⟨r_9,hr_10,hF⟩:=bind_some hF
 refine h_callq 0 [0] il ft (mk_Stream_Pick_ok hr_10) rfl hb6 rfl (by kernel_rfl) (by kernel_rfl) (by kernel_rfl) (by kernel_rfl) (by kernel_rfl) (by kernel_rfl) (by kernel_rfl) (by decide) (by kernel_rfl) wz (vI r_9.1) (by kernel_rfl) ([(n_2,some (.cells 2 [(vL eI r_9.2.L),(vI r_9.2.f_at)]))]:Hp) (by kernel_rfl) (h_opz (.ref n_2 0 0) (h_lit (([30,100,5]:List Int).map eI) es22 ez22 rfl rfl rfl rfl rfl wz ?_))
 obtain ⟨r_12,hr_13,hF⟩:=bind_some hF
 refine h_callq 0 [0] il ft (mk_Stream_Pick_ok hr_13) rfl hb6 rfl (by kernel_rfl) (by kernel_rfl) (by kernel_rfl) (by kernel_rfl) (by kernel_rfl) (by kernel_rfl) (by kernel_rfl) (by decide) (by kernel_rfl) wz (vI r_12.1) (by kernel_rfl) ([(n_2,some (.cells 2 [(vL eI r_12.2.L),(vI r_12.2.f_at)]))]:Hp) (by kernel_rfl) (h_op (.d (.agg (Window.enc (⟨r_9.1,r_12.1⟩:Window)))) wz (by kernel_rfl) (h_opz (.ref n_2 0 0) (h_lit (([1,2,9]:List Int).map eI) es22 ez22 rfl rfl rfl rfl rfl wz ?_)))
 obtain ⟨r_15,hr_16,hF⟩:=bind_some hF
 refine h_callq 0 [0] il ft (mk_Stream_Pick_ok hr_16) rfl hb6 rfl (by kernel_rfl) (by kernel_rfl) (by kernel_rfl) (by kernel_rfl) (by kernel_rfl) (by kernel_rfl) (by kernel_rfl) (by decide) (by kernel_rfl) wz (vI r_15.1) (by kernel_rfl) ([(n_2,some (.cells 2 [(vL eI r_15.2.L),(vI r_15.2.f_at)]))]:Hp) (by kernel_rfl) (h_opz (.ref n_2 0 0) (h_lit (([0,5]:List Int).map eI) es22 ez22 rfl rfl rfl rfl rfl wz ?_))
 obtain ⟨r_18,hr_19,hF⟩:=bind_some hF
 refine h_callq 0 [0] il ft (mk_Stream_Pick_ok hr_19) rfl hb6 rfl (by kernel_rfl) (by kernel_rfl) (by kernel_rfl) (by kernel_rfl) (by kernel_rfl) (by kernel_rfl) (by kernel_rfl) (by decide) (by kernel_rfl) wz (vI r_18.1) (by kernel_rfl) ([(n_2,some (.cells 2 [(vL eI r_18.2.L),(vI r_18.2.f_at)]))]:Hp) (by kernel_rfl) (h_op (.agg [(vS r_6.1),(vS (⟨#[]⟩:ByteArray)),(vI r_9.1),(vI r_12.1),.nil,(vI r_18.1),(vI r_15.1),(vI 0)]) wz (by kernel_rfl) (h_alloc 0 (.inl rfl) z37 rfl wz (fun n_21=>h_str 0 il ft 1 sz37 rfl rfl [(vS r_6.1),(vS (⟨#[]⟩:ByteArray)),(vI r_9.1),(vI r_12.1),.nil,(vI r_18.1),(vI r_15.1),(vI 0)] rfl wz (h_nil (wH_at (H0:=([(n_2,some (.cells 2 [(vL eI r_18.2.L),(vI r_18.2.f_at)])),(n_21,some (.cells 8 [(vS r_6.1),(vS (⟨#[]⟩:ByteArray)),(vI r_9.1),(vI r_12.1),.nil,(vI r_18.1),(vI r_15.1),(vI 0)]))]:Hp)) ([(4,(vL Spot.enc r_3.1)),(5,(vL Campaign.enc r_3.2.1)),(6,(vI r_3.2.2.1)),(7,(.ref n_21 0 0))]:List (Nat×V)) (by kernel_rfl) (pre_mk (by kernel_rfl)) (wH_sr (h_opz (vL Spot.enc r_3.1) (h_opz (vL Campaign.enc r_3.2.1) (h_ldr 0 1 il ft sz37 ag37 rfl rfl (.agg [(vS r_6.1),(vS (⟨#[]⟩:ByteArray)),(vI r_9.1),(vI r_12.1),.nil,(vI r_18.1),(vI r_15.1),(vI 0)]) rfl wz ?_)))))))))
 obtain ⟨r_22,hr_23,hF⟩:=bind_some hF
 refine h_call0 (booking_Left_ok hr_23) rfl hb7 rfl rfl rfl rfl wz (h_opz (.tup [(vI r_22.1),(vI r_22.2)]) (h_opz (vI r_22.1) (h_opz (vI r_22.2) (h_opz (vI r_22.1) (h_opz (vI r_22.2) (h_nil (wH_sr (h_opz (vL Spot.enc r_3.1) (h_opz (vL Campaign.enc r_3.2.1) ?_)))))))))
 obtain ⟨r_24,hr_25,hF⟩:=bind_some hF
 refine h_call0 (booking_Tight_ok hr_25) rfl hb8 rfl rfl rfl rfl wz (h_opz (.tup [(vL eS r_24.1),(vI r_24.2)]) (h_opz (vL eS r_24.1) (h_opz (vI r_24.2) (h_opz (vL eS r_24.1) (h_opz (vI r_24.2) (h_nil (wH_sr (h_opz (vL Spot.enc r_3.1) (h_opz (vL Campaign.enc r_3.2.1) ?_)))))))))
 obtain ⟨r_26,hr_27,hF⟩:=bind_some hF
 refine h_call0 (booking_Rivals_ok hr_27) rfl hb9 rfl rfl rfl rfl wz (h_opz (.tup [(vL Pair.enc r_26.1),(vI r_26.2)]) (h_opz (vL Pair.enc r_26.1) (h_opz (vI r_26.2) (h_opz (vL Pair.enc r_26.1) (h_opz (vI r_26.2) (h_nil (wH_sr (h_opz (vI r_3.2.2.1) (h_ldr 0 1 il ft sz37 ag37 rfl rfl (.agg [(vS r_6.1),(vS (⟨#[]⟩:ByteArray)),(vI r_9.1),(vI r_12.1),.nil,(vI r_18.1),(vI r_15.1),(vI 0)]) rfl wz (h_lit (([(⟨r_6.1,(⟨#[]⟩:ByteArray),(⟨r_9.1,r_12.1⟩:Window),([]:List ByteArray),r_18.1,r_15.1,0⟩:Campaign)]:List Campaign).map Campaign.enc) es27 ez27 rfl rfl rfl rfl rfl wz ?_))))))))))
 obtain ⟨r_28,hr_29,hF⟩:=bind_some hF
 refine h_call0 (ref_CampaignsFault_ok hr_29) rfl hb11 rfl rfl rfl rfl wz (h_opz (vL Campaign.enc r_3.2.1) (h_opz (.fn 14 [(.ref n_21 0 0)]) (h_ghost (fun hw=>wH_coc0 1 [(vS r_6.1),(vS (⟨#[]⟩:ByteArray)),(vI r_9.1),(vI r_12.1),(vL eS ([]:List ByteArray)),(vI r_18.1),(vI r_15.1),(vI 0)] rfl (fun S=>cons_eq (rfl) (cons_eq (rfl) (cons_eq (rfl) (cons_eq (rfl) (cons_eq (rfl) (cons_eq (rfl) (cons_eq (rfl) (cons_eq (rfl) (rfl))))))))) hw) (by kernel_rfl) ?_)))
 obtain ⟨r_30,hr_31,hF⟩:=bind_some hF
 refine h_callq 0 [1] il ft (slices_ContainsFunc_api_Campaign_api_Campaign_ok (gid:=14) (caps := [.ref (extN 0) 0 0]) (Sin := [(.cells 8 [(vS r_6.1),(vS (⟨#[]⟩:ByteArray)),(vI r_9.1),(vI r_12.1),(vL eS ([]:List ByteArray)),(vI r_18.1),(vI r_15.1),(vI 0)])]) (fun _ _ h_=>by have k_:=law_RoomLeft_1_ok h_; exact k_) hb14 ⟨rfl,rfl⟩ (by kernel_rfl) (all_ok (by kernel_rfl)) (all_mut (by kernel_rfl)) hr_31) rfl hb13 rfl (by kernel_rfl) (by kernel_rfl) (by kernel_rfl) (by kernel_rfl) (by kernel_rfl) (by kernel_rfl) (by kernel_rfl) (by decide) (by kernel_rfl) wz (vB r_30) (by kernel_rfl) ([(n_2,some (.cells 2 [(vL eI r_18.2.L),(vI r_18.2.f_at)])),(n_21,some (.cells 8 [(vS r_6.1),(vS (⟨#[]⟩:ByteArray)),(vI r_9.1),(vI r_12.1),(vL eS ([]:List ByteArray)),(vI r_18.1),(vI r_15.1),(vI 0)]))]:Hp) (by kernel_rfl) ?_
 obtain ⟨r_33,hr_34,hF⟩:=bind_some hF
 refine h_call0 (law_when_ok hr_34) rfl hb12 rfl rfl rfl rfl wz (h_lit (([r_3.2.2.1,r_28,r_33]:List Int).map eI) es74 ez74 rfl rfl rfl rfl rfl wz ?_)
 obtain ⟨r_35,hr_36,hF⟩:=bind_some hF
 refine h_call0 (law_errs_ok hr_36) rfl hb10 rfl rfl rfl rfl wz (h_opz (vI r_35) (h_nil (wH_at (H0:=([(n_2,some (.cells 2 [(vL eI r_18.2.L),(vI r_18.2.f_at)])),(n_21,some (.cells 8 [(vS r_6.1),(vS (⟨#[]⟩:ByteArray)),(vI r_9.1),(vI r_12.1),(vL eS ([]:List ByteArray)),(vI r_18.1),(vI r_15.1),(vI 0)]))]:Hp)) ([(4,(vL Spot.enc r_3.1)),(5,(vL Campaign.enc r_3.2.1)),(6,(vI r_3.2.2.1)),(7,(.ref n_21 0 0)),(8,(vI r_22.1)),(9,(vI r_22.2)),(10,(vL eS r_24.1)),(11,(vI r_24.2)),(12,(vL Pair.enc r_26.1)),(13,(vI r_26.2)),(14,(vI r_35))]:List (Nat×V)) (by kernel_rfl) (pre_mk (by kernel_rfl)) (wH_sr (h_opz (vI 0) (h_nil (wH_seq (wH_sr (h_opz (vI r_35) (h_opz (vB (r_35 == 0)) (h_nil ?_)))))))))))
 obtain ⟨v_37,h_38,hF⟩:=bind_some hF
 refine wH_joinU [(4,(vL Spot.enc r_3.1)),(5,(vL Campaign.enc r_3.2.1)),(6,(vI r_3.2.2.1)),(8,(vI r_22.1)),(9,(vI r_22.2)),(10,(vL eS r_24.1)),(11,(vI r_24.2)),(12,(vL Pair.enc r_26.1)),(13,(vI r_26.2)),(14,(vI v_37.1)),(15,(vI v_37.2))] [(n_2,some (.cells 2 [(vL eI r_18.2.L),(vI r_18.2.f_at)])),(n_21,some (.cells 8 [(vS r_6.1),(vS (⟨#[]⟩:ByteArray)),(vI r_9.1),(vI r_12.1),(vL eS ([]:List ByteArray)),(vI r_18.1),(vI r_15.1),(vI 0)]))] ?_ ?_
 ·rcases cond_some h_38 with⟨hc_39,h_38⟩ | ⟨hc_39,h_38⟩
  ·refine wH_ift rfl hc_39 (wH_sr (h_opz (vL Spot.enc r_3.1) (h_opz (vL Campaign.enc r_3.2.1) (h_ldr 0 1 il ft sz37 ag37 rfl rfl (.d (.agg (Campaign.enc (⟨r_6.1,(⟨#[]⟩:ByteArray),(⟨r_9.1,r_12.1⟩:Window),([]:List ByteArray),r_18.1,r_15.1,0⟩:Campaign)))) rfl wz ?_))))
   obtain ⟨r_40,hr_41,h_38⟩:=bind_some h_38
   refine h_call0 (ref_LeftOf_ok hr_41) rfl hb15 rfl rfl rfl rfl wz (h_opz (.tup [(vI r_40.1),(vB r_40.2)]) (h_opz (vI r_40.1) (h_opz (vB r_40.2) (h_opz (vI r_40.1) (h_opz (vB r_40.2) (h_nil (wH_region (h_opz (vI r_40.1) (h_opz (vB r_40.2) (h_opz (vB (!r_40.2)) ?_))))))))))
   obtain ⟨r_42,hr_43,h_38⟩:=bind_some h_38
   refine h_call0 (law_when_ok hr_43) rfl hb12 rfl rfl rfl rfl wz (h_opz (vI r_40.1) (h_opz (vI r_42) (h_nil ?_)))
   obtain rfl:=some_inj h_38
   exact cu
  ·refine wH_iff rfl hc_39 (wH_skip ?_)
   obtain rfl:=some_inj h_38
   exact cu
 ·rintro ⟨⟩ _ sl_ H_ hp_ hq_
  refine wH_at _ hp_ hq_ (wH_seq (wH_seq ?_))
  obtain ⟨v_44,h_45,hF⟩:=bind_some hF
  refine wH_joinU [(4,(vL Spot.enc r_3.1)),(5,(vL Campaign.enc r_3.2.1)),(6,(vI r_3.2.2.1)),(10,(vL eS r_24.1)),(12,(vL Pair.enc r_26.1)),(103,(vB v_44))] [(n_2,some (.cells 2 [(vL eI r_18.2.L),(vI r_18.2.f_at)])),(n_21,some (.cells 8 [(vS r_6.1),(vS (⟨#[]⟩:ByteArray)),(vI r_9.1),(vI r_12.1),(vL eS ([]:List ByteArray)),(vI r_18.1),(vI r_15.1),(vI 0)]))] ?_ ?_
  ·refine wH_region (h_opz (vI r_22.2) (h_opz (vI v_37.1) (h_opz (vB (r_22.2 != v_37.1)) ?_)))
   rcases cond_some h_45 with⟨hc_46,h_45⟩ | ⟨hc_46,h_45⟩
   ·refine h_movb rfl hc_46 wz (h_skipz (h_skipz (h_skipz (h_opz (vB true) (h_opz (vB true) (h_skipz (h_skipz (h_skipz (h_opz (vB true) (h_opz (vB true) (h_skipz (h_skipz (h_skipz (h_opz (vB true) (h_nil ?_)))))))))))))))
    obtain rfl:=some_inj h_45
    exact cu
   ·refine h_movb rfl hc_46 wz (h_op (vI r_22.1) wa rfl (h_op (vI v_37.2) wa rfl (h_op (vB (r_22.1 != v_37.2)) wa rfl (h_opz (vB (r_22.1 != v_37.2)) ?_))))
    rcases cond_some h_45 with⟨hc_47,h_45⟩ | ⟨hc_47,h_45⟩
    ·refine h_movb rfl hc_47 wz (h_skipz (h_skipz (h_skipz (h_opz (vB true) (h_opz (vB true) (h_skipz (h_skipz (h_skipz (h_opz (vB true) (h_nil ?_))))))))))
     obtain rfl:=some_inj h_45
     exact cu
    ·refine h_movb rfl hc_47 wz (h_op (vI r_24.2) wa rfl (h_op (vI r_3.2.2.1) wa rfl (h_op (vB (r_24.2 != r_3.2.2.1)) wa rfl (h_opz (vB (r_24.2 != r_3.2.2.1)) ?_))))
     rcases cond_some h_45 with⟨hc_48,h_45⟩ | ⟨hc_48,h_45⟩
     ·refine h_movb rfl hc_48 wz (h_skipz (h_skipz (h_skipz (h_opz (vB true) (h_nil ?_)))))
      obtain rfl:=some_inj h_45
      exact cu
     ·refine h_movb rfl hc_48 wz (h_op (vI r_26.2) wa rfl (h_op (vI r_3.2.2.1) wa rfl (h_op (vB (r_26.2 != r_3.2.2.1)) wa rfl (h_opz (vB (r_26.2 != r_3.2.2.1)) (h_nil ?_)))))
      obtain rfl:=some_inj h_45
      exact cu
  ·rintro ⟨⟩ _ sl_ H_ hp_ hq_
   refine wH_at _ hp_ hq_ ?_
   rcases cond_some hF with⟨hc_49,hF⟩ | ⟨hc_49,hF⟩
   ·refine wH_ift rfl hc_49 (wH_sr (h_opz (vB false) (h_nil ?_)))
    obtain rfl:=some_inj hF
    exact wH_ret (fin0r [(vB false)] ⟨rfl,trivial⟩)
   ·refine wH_iff rfl hc_49 (wH_skip (wH_seq (wH_sr (h_opz (vI r_3.2.2.1) (h_opz (vB (r_3.2.2.1 != 0)) (h_nil ?_))))))
    rcases cond_some hF with⟨hc_50,hF⟩ | ⟨hc_50,hF⟩
    ·refine wH_ift rfl hc_50 (wH_seq ?_)
     obtain ⟨v_51,h_52,hF⟩:=bind_some hF
     refine wH_joinU [(2,(vB v_51))] [(n_2,some (.cells 2 [(vL eI r_18.2.L),(vI r_18.2.f_at)])),(n_21,some (.cells 8 [(vS r_6.1),(vS (⟨#[]⟩:ByteArray)),(vI r_9.1),(vI r_12.1),(vL eS ([]:List ByteArray)),(vI r_18.1),(vI r_15.1),(vI 0)]))] ?_ ?_
     ·refine wH_region (h_opz (vL eS r_24.1) (h_len un35 rfl wz (h_opz (vL Pair.enc r_26.1) (h_len un42 rfl wz (h_opz (vI (w64 ((r_24.1.length:Int) + (r_26.1.length:Int)))) (h_opz (vB ((w64 ((r_24.1.length:Int) + (r_26.1.length:Int))) == 0)) ?_))))))
      rcases cond_some h_52 with⟨hc_53,h_52⟩ | ⟨hc_53,h_52⟩
      ·refine h_movb rfl hc_53 wz ?_
       obtain ⟨r_54,hr_55,h_52⟩:=bind_some h_52
       refine h_call0 (law_booked_ok hr_55) rfl hb16 rfl rfl rfl rfl wa (h_opz (vB r_54) (h_opz (vB r_54) (h_nil ?_)))
       obtain rfl:=some_inj h_52
       exact cu
      ·refine h_movb rfl hc_53 wz (h_skipz (h_opz (vB false) (h_opz (vB false) (h_nil ?_))))
       obtain rfl:=some_inj h_52
       exact cu
     ·rintro ⟨⟩ _ sl_ H_ hp_ hq_
      refine wH_at _ hp_ hq_ ?_
      obtain rfl:=some_inj hF
      exact wH_ret (fin0r [(vB v_51)] ⟨rfl,trivial⟩)
    ·refine wH_iff rfl hc_50 (wH_skip (wH_seq ?_))
     obtain ⟨v_56,h_57,hF⟩:=bind_some hF
     refine wH_joinU [(2,(vB v_56))] [(n_2,some (.cells 2 [(vL eI r_18.2.L),(vI r_18.2.f_at)])),(n_21,some (.cells 8 [(vS r_6.1),(vS (⟨#[]⟩:ByteArray)),(vI r_9.1),(vI r_12.1),(vL eS ([]:List ByteArray)),(vI r_18.1),(vI r_15.1),(vI 0)]))] ?_ ?_
     ·refine wH_region (h_opz (vL eS r_24.1) (h_opz (vL Spot.enc r_3.1) (h_opz (vL Campaign.enc r_3.2.1) ?_)))
      obtain ⟨r_58,hr_59,h_57⟩:=bind_some h_57
      refine h_call0 (ref_TightOf_ok hr_59) rfl hb18 rfl rfl rfl rfl wz ?_
      obtain ⟨r_60,hr_61,h_57⟩:=bind_some h_57
      refine h_call0 (slices_Equal_string_string_ok hr_61) rfl hb17 rfl rfl rfl rfl wz ?_
      rcases cond_some h_57 with⟨hc_62,h_57⟩ | ⟨hc_62,h_57⟩
      ·refine h_movb rfl hc_62 wz (h_op (vL Pair.enc r_26.1) wa rfl (h_op (vL Spot.enc r_3.1) wa rfl (h_op (vL Campaign.enc r_3.2.1) wa rfl ?_)))
       obtain ⟨r_63,hr_64,h_57⟩:=bind_some h_57
       refine h_call0 (ref_RivalsOf_ok hr_64) rfl hb20 rfl rfl rfl rfl wa ?_
       obtain ⟨r_65,hr_66,h_57⟩:=bind_some h_57
       refine h_call0 (slices_Equal_api_Pair_api_Pair_ok hr_66) rfl hb19 rfl rfl rfl rfl wa (h_opz (vB r_65) ?_)
       rcases cond_some h_57 with⟨hc_67,h_57⟩ | ⟨hc_67,h_57⟩
       ·refine h_movb rfl hc_67 wz ?_
        obtain ⟨r_68,hr_69,h_57⟩:=bind_some h_57
        refine h_call0 (law_booked_ok hr_69) rfl hb16 rfl rfl rfl rfl wa (h_opz (vB r_68) (h_opz (vB r_68) (h_nil ?_)))
        obtain rfl:=some_inj h_57
        exact cu
       ·refine h_movb rfl hc_67 wz (h_skipz (h_opz (vB false) (h_opz (vB false) (h_nil ?_))))
        obtain rfl:=some_inj h_57
        exact cu
      ·refine h_movb rfl hc_62 wz (h_skipz (h_skipz (h_skipz (h_skipz (h_skipz (h_opz (vB false) (h_opz (vB false) (h_skipz (h_opz (vB false) (h_opz (vB false) (h_nil ?_)))))))))))
       obtain rfl:=some_inj h_57
       exact cu
     ·rintro ⟨⟩ _ sl_ H_ hp_ hq_
      refine wH_at _ hp_ hq_ ?_
      obtain rfl:=some_inj hF
      exact wH_ret (fin0r [(vB v_56)] ⟨rfl,trivial⟩)
end Go.Proofs.Ytipjpkpmkijdoab.Law

