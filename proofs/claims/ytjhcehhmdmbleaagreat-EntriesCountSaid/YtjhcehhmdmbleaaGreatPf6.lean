/-
 The machine computes these plain functions (written by a program of ours).
-/
import Derived.Test.YtjhcehhmdmbleaaGreatFacts
import Derived.Test.YtjhcehhmdmbleaaGreatDefs
import Derived.Test.YtjhcehhmdmbleaaGreatPf5
open Go Go.Eng Go.Proofs
namespace Go.Proofs.YtjhcehhmdmbleaaGreat.Law
set_option maxRecDepth 100000
set_option linter.unusedVariables false
set_option maxHeartbeats 1000000
theorem ref_onOf_ok {l_1:(List Entry)} {p_2:Player} {atv_3:Int} {r:Entry} (hF:ref_onOf l_1 p_2 atv_3=some r) :
  FnM Tryz.prog 37 [(vL Entry.enc l_1),(.d (.agg (Player.enc p_2))),(vI atv_3)] [] (.d (.agg (Entry.enc r))) []:=by
 refine FnM.of_wH ⟨Tryz.prog,19,[],[]⟩ rfl Tryz.func37 rfl rfl (Nat.le_of_ble_eq_true rfl) (by kernel_rfl) ?_
 unfold ref_onOf at hF
 refine wH_seq (wH_region (h_box 0 (.inl rfl) [(vS p_2.Key),(vS p_2.Screen),(vI p_2.Zone),(vL eS p_2.Tags)] rfl rfl wz (fun n_4=>h_alloc 0 (.inl rfl) z55 rfl wz (fun n_5=>h_nil (wH_seq (wH_seq (wH_region (h_op (vL Entry.enc l_1) wz rfl (h_ldr 0 0 il ft sz30 ag30 rfl rfl (.d (.agg (Player.enc p_2))) rfl wz (h_op (vI atv_3) wz rfl ?_))))))))))
 obtain ⟨r_6,hr_7,hF⟩:=bind_some hF
 refine h_call0 (ref_WhyOf_ok hr_7) rfl hb39 rfl rfl rfl rfl wz (h_op (vL Entry.enc r_6) wz rfl (h_nil (wH_seq (wH_region (h_op (vL Entry.enc r_6) wz rfl (h_len un26 rfl wz (h_op (vB (decide ((r_6.length:Int) > 0))) wz rfl (h_nil ?_))))))))
 rcases cond_some hF with⟨hc_8,hF⟩ | ⟨hc_8,hF⟩
 ·refine wH_ift rfl hc_8 (wH_seq (wH_region (h_op (vL Entry.enc r_6) wz rfl ?_)))
  obtain ⟨y_9,hy_10,hF⟩:=bind_some hF
  refine h_ia es26 rfl rfl hy_10 rfl wz (h_ldc sz55 ag55 rfl (.d (.agg (Entry.enc y_9))) rfl wz (h_str 0 il ft 1 sz55 rfl rfl [(vS y_9.Key),(vS y_9.Item),(vI y_9.Version),(vI y_9.First),(vI y_9.Last),(vI y_9.Every),(vI y_9.Days),(vL eI y_9.Except),(vI y_9.From),(vI y_9.To),(vI y_9.Prio),(vL eS y_9.Tags),(vB y_9.Gone)] rfl wz (h_nil ?_)))
  obtain rfl:=some_inj hF
  exact wH_ret (fin0 (.inr rfl) [(.d (.agg (Entry.enc y_9)))] ⟨⟨1,_,_,_,_,_,_,_,rfl,rfl,sz55,ag55,rfl⟩,trivial⟩ rfl rfl rfl)
 ·refine wH_iff rfl hc_8 (wH_skip (wH_seq (wH_region (h_op (.agg [(vS (⟨#[]⟩:ByteArray)),(vS (⟨#[]⟩:ByteArray)),(vI 0),(vI 0),(vI 0),(vI 0),(vI 0),.nil,(vI 0),(vI 0),(vI 0),.nil,(vB false)]) wz (by kernel_rfl) (h_str 0 il ft 1 sz55 rfl rfl [(vS (⟨#[]⟩:ByteArray)),(vS (⟨#[]⟩:ByteArray)),(vI 0),(vI 0),(vI 0),(vI 0),(vI 0),.nil,(vI 0),(vI 0),(vI 0),.nil,(vB false)] rfl wz (h_nil ?_))))))
  obtain rfl:=some_inj hF
  exact wH_ret (fin0 (.inr rfl) [(.agg [(vS (⟨#[]⟩:ByteArray)),(vS (⟨#[]⟩:ByteArray)),(vI 0),(vI 0),(vI 0),(vI 0),(vI 0),.nil,(vI 0),(vI 0),(vI 0),.nil,(vB false)])] ⟨⟨1,_,_,_,_,_,_,_,rfl,rfl,sz55,ag55,rfl⟩,trivial⟩ rfl rfl rfl)
theorem ref_OnOf_ok {l_1:(List Entry)} {p_2:Player} {atv_3:Int} {r:ByteArray×Bool} (hF:ref_OnOf l_1 p_2 atv_3=some r) :
  FnM Tryz.prog 17 [(vL Entry.enc l_1),(.d (.agg (Player.enc p_2))),(vI atv_3)] [] (.tup [(vS r.1),(vB r.2)]) []:=by
 refine FnM.of_wH ⟨Tryz.prog,17,[],[]⟩ rfl Tryz.func17 rfl rfl (Nat.le_of_ble_eq_true rfl) (by kernel_rfl) ?_
 unfold ref_OnOf at hF
 refine wH_seq (wH_region (h_box 0 (.inl rfl) [(vS p_2.Key),(vS p_2.Screen),(vI p_2.Zone),(vL eS p_2.Tags)] rfl rfl wz (fun n_4=>h_op (vS (⟨#[]⟩:ByteArray)) wz rfl (h_op (vB false) wz rfl (h_nil (wH_seq (wH_region (h_op (vL Entry.enc l_1) wz rfl (h_ldr 0 0 il ft sz30 ag30 rfl rfl (.d (.agg (Player.enc p_2))) rfl wz (h_op (vI atv_3) wz rfl ?_))))))))))
 obtain ⟨r_5,hr_6,hF⟩:=bind_some hF
 refine h_call0 (ref_onOf_ok hr_6) rfl hb37 rfl rfl rfl rfl wz (h_field fr55_0 rfl (vS r_5.Key) rfl wz (h_op (vS r_5.Key) wz rfl (h_nil (wH_seq (wH_region (h_op (vS r_5.Key) wz rfl (h_op (vS r_5.Key) wz rfl (h_op (vB (sNe r_5.Key (⟨#[]⟩:ByteArray))) wz rfl (h_op (vS r_5.Key) wz rfl (h_op (vB (sNe r_5.Key (⟨#[]⟩:ByteArray))) wz rfl (h_nil ?_)))))))))))
 obtain rfl:=some_inj hF
 exact wH_ret (fin0 (.inr rfl) [(vS r_5.Key),(vB (sNe r_5.Key (⟨#[]⟩:ByteArray)))] ⟨rfl,⟨rfl,trivial⟩⟩ rfl rfl rfl)
theorem ref_keysOf_ok {l_1:(List Entry)} {r:(List ByteArray)} (hF:ref_keysOf l_1=some r) :
  FnM Tryz.prog 38 [(vL Entry.enc l_1)] [] (vL eS r) []:=by
 refine FnM.of_wH ⟨Tryz.prog,19,[],[]⟩ rfl Tryz.func38 rfl rfl (Nat.le_of_ble_eq_true rfl) (by kernel_rfl) ?_
 unfold ref_keysOf at hF
 refine wH_seq (wH_region (h_op .nil wz rfl (h_nil (wH_seq (wH_region (h_op .nil wz rfl (h_nil (wH_seq (wH_seq (wH_region (h_op (vL Entry.enc l_1) wz rfl (h_len un26 rfl wz (h_op (vI 0) wz rfl (h_nil (wH_new (fun n_8 => ?_))))))))))))))))
 obtain ⟨o_13,hj_14,hF⟩:=bind_some hF
 obtain ⟨hn_6,hj_14⟩:=forL_some hj_14
 refine wH_join (β:=((List ByteArray))×Nm) (fun p=>(fun (s_7:(List ByteArray)) (n_10:Nm)=>([(3,(gV n_10 1 s_7))]:List (Nat×V))) p.1 p.2) (fun p=>(fun (s_7:(List ByteArray)) (n_10:Nm)=>([(n_10,gB 1 eS s_7)]:Hp)) p.1 p.2) (fun p=>o_13 = .go p.1) ?_ ?_
 ·refine wH_block (wH_loop (β:=Nat×(List Entry)×((List ByteArray))×Nm) (fun p=>(fun (k_2:Nat) (l_3:List Entry) (s_7:(List ByteArray)) (n_10:Nm)=>([(3,(gV n_10 1 s_7)),(6,(vL Entry.enc l_1)),(7,(vI (l_1.length:Int))),(8,(vI (k_2:Int)))]:List (Nat×V))) p.1 p.2.1 p.2.2.1 p.2.2.2) (fun p=>(fun (k_2:Nat) (l_3:List Entry) (s_7:(List ByteArray)) (n_10:Nm)=>([(n_10,gB 1 eS s_7)]:Hp)) p.1 p.2.1 p.2.2.1 p.2.2.2) (fun p=>forR (fun k x s=>ref_keysOf_L1 k x s) p.2.1 p.1 p.2.2.1=some o_13∧(l_1).drop p.1=p.2.1) (fun p=>p.2.1.length) (0,l_1,([]:List ByteArray),n_8) ⟨hj_14,rfl⟩ rfl (pre_r rfl) ?_)
  rintro ⟨k_2,l_3,s_7,n_10⟩ ⟨hL_12,hD_5⟩
  dsimp only at hL_12 hD_5
  cases l_3 with
  | nil =>
   obtain rfl:=some_inj hL_12
   refine wH_seq (wH_region (h_op (vB (decide ((k_2:Int) < (l_1.length:Int)))) wz rfl (h_nil ?_)))
   refine wH_seq (wH_iff rfl (drop_nil hD_5) (wH_exit ?_))
   exact cut_mk (s_7,n_10) rfl rfl (pre_r rfl)
  | cons x_4 l_3 =>
   obtain ⟨c_,hc_11,hL_12⟩:=bind_some hL_12
   refine wH_seq (wH_region (h_op (vB (decide ((k_2:Int) < (l_1.length:Int)))) wz rfl (h_nil ?_)))
   refine wH_seq (wH_ift rfl (drop_cons hD_5) (wH_skip ?_))
   unfold ref_keysOf_L1 at hc_11
   refine wH_seq (wH_block (wH_seq (wH_region (h_ia es26 rfl rfl (drop_idx hD_5) rfl wz (h_ldc sz55 ag55 rfl (.d (.agg (Entry.enc x_4))) rfl wz (h_alloc 0 (.inl rfl) z55 rfl wz (fun n_15=>h_str 0 il ft 1 sz55 rfl rfl [(vS x_4.Key),(vS x_4.Item),(vI x_4.Version),(vI x_4.First),(vI x_4.Last),(vI x_4.Every),(vI x_4.Days),(vL eI x_4.Except),(vI x_4.From),(vI x_4.To),(vI x_4.Prio),(vL eS x_4.Tags),(vB x_4.Gone)] rfl wz (h_nil (wH_region (h_op (gV n_10 1 s_7) wz rfl (h_far pl55_0 rfl 0 rfl wz (h_ldr 0 1 il ft sz9 ag9 rfl rfl (vS x_4.Key) rfl wz (h_lit (([x_4.Key]:List ByteArray).map eS) es28 ez28 rfl rfl rfl rfl rfl wz ?_)))))))))))))
   obtain ⟨a_16,hz_17,hc_11⟩:=bind_some hc_11
   refine h_appg 0 il ft (i:=0) el28 el28 sz9 z9 rfl (by decide) by9 (by decide) (fun _=>rfl) rfl rfl rfl hz_17 wz (fun n_18=>h_op (gV n_18 1 a_16) wz rfl (h_nil (wH_region (h_opw (w64_next hD_5 hn_6) wz rfl (h_op (vI ((k_2 + 1:Nat):Int)) wz rfl (h_nil ?_))))))
   obtain rfl:=some_inj hc_11
   exact loop_mk (k_2 + 1,l_3,a_16,n_18) ⟨hL_12,drop_next hD_5⟩ (Nat.lt_succ_self _) rfl (pre_r rfl)
 ·rintro ⟨s_7,n_10⟩ ho_ sl_ H_ hp_ hq_
  subst ho_
  refine wH_at _ hp_ hq_ (wH_seq (wH_region (h_op (gV n_10 1 s_7) wz rfl (h_op (gV n_10 1 s_7) wz rfl (h_nil (wH_frozg 0 rfl (wH_cog 2 0 rfl rfl (wH_cog 3 0 rfl rfl (wH_cog 18 0 rfl rfl ?_)))))))))
  obtain rfl:=some_inj hF
  exact wH_ret (fin0 (.inr rfl) [(vL eS s_7)] ⟨rfl,trivial⟩ rfl rfl rfl)
theorem ref_WhyKeys_ok {l_1:(List Entry)} {p_2:Player} {atv_3:Int} {r:(List ByteArray)} (hF:ref_WhyKeys l_1 p_2 atv_3=some r) :
  FnM Tryz.prog 19 [(vL Entry.enc l_1),(.d (.agg (Player.enc p_2))),(vI atv_3)] [] (vL eS r) []:=by
 refine FnM.of_wH ⟨Tryz.prog,12,[],[]⟩ rfl Tryz.func19 rfl rfl (Nat.le_of_ble_eq_true rfl) (by kernel_rfl) ?_
 unfold ref_WhyKeys at hF
 refine wH_seq (wH_region (h_box 0 (.inl rfl) [(vS p_2.Key),(vS p_2.Screen),(vI p_2.Zone),(vL eS p_2.Tags)] rfl rfl wz (fun n_4=>h_op .nil wz rfl (h_nil (wH_seq (wH_region (h_op (vL Entry.enc l_1) wz rfl (h_ldr 0 0 il ft sz30 ag30 rfl rfl (.d (.agg (Player.enc p_2))) rfl wz (h_op (vI atv_3) wz rfl ?_)))))))))
 obtain ⟨r_5,hr_6,hF⟩:=bind_some hF
 refine h_call0 (ref_WhyOf_ok hr_6) rfl hb39 rfl rfl rfl rfl wz ?_
 obtain ⟨r_7,hr_8,hF⟩:=bind_some hF
 refine h_call0 (ref_keysOf_ok hr_8) rfl hb38 rfl rfl rfl rfl wz (h_op (vL eS r_7) wz rfl (h_nil ?_))
 obtain rfl:=some_inj hF
 exact wH_ret (fin0 (.inr rfl) [(vL eS r_7)] ⟨rfl,trivial⟩ rfl rfl rfl)
theorem slices_Equal_string_string_ok {s1_1:(List ByteArray)} {s2_2:(List ByteArray)} {r:Bool} (hF:slices_Equal_string_string s1_1 s2_2=some r) :
  FnM Tryz.prog 18 [(vL eS s1_1),(vL eS s2_2)] [] (vB r) []:=by
 refine FnM.of_wH ⟨Tryz.prog,26,[],[]⟩ rfl Tryz.func18 rfl rfl (Nat.le_of_ble_eq_true rfl) (by kernel_rfl) ?_
 unfold slices_Equal_string_string at hF
 refine wH_seq (wH_region (h_op (vB false) wz rfl (h_nil (wH_seq (wH_seq (wH_region (h_op (vL eS s1_1) wz rfl (h_len un28 rfl wz (h_op (vL eS s2_2) wz rfl (h_len un28 rfl wz (h_op (vB ((s1_1.length:Int) != (s2_2.length:Int))) wz rfl (h_nil ?_))))))))))))
 rcases cond_some hF with⟨hc_3,hF⟩ | ⟨hc_3,hF⟩
 ·refine wH_ift rfl hc_3 (wH_seq (wH_region (h_op (vB false) wz rfl (h_nil ?_))))
  obtain rfl:=some_inj hF
  exact wH_ret (fin0 (.inr rfl) [(vB false)] ⟨rfl,trivial⟩ rfl rfl rfl)
 ·refine wH_iff rfl hc_3 (wH_skip (wH_seq (wH_seq (wH_region (h_op (vL eS s1_1) wz rfl (h_len un28 rfl wz (h_op (vI 0) wz rfl (h_nil ?_))))))))
  obtain ⟨o_12,hj_13,hF⟩:=bind_some hF
  obtain ⟨hn_8,hj_13⟩:=forL_some hj_13
  refine wH_join (β:=(Unit)) (fun (s_9:Unit)=>([]:List (Nat×V))) (fun (s_9:Unit)=>([]:Hp)) (fun p=>o_12 = .go p) ?_ ?_
  ·refine wH_block (wH_loop (β:=Nat×(List ByteArray)×(Unit)) (fun p=>(fun (k_4:Nat) (l_5:List ByteArray) (s_9:Unit)=>([(0,(vL eS s1_1)),(1,(vL eS s2_2)),(12,(vI (s1_1.length:Int))),(13,(vI (k_4:Int)))]:List (Nat×V))) p.1 p.2.1 p.2.2) (fun p=>(fun (k_4:Nat) (l_5:List ByteArray) (s_9:Unit)=>([]:Hp)) p.1 p.2.1 p.2.2) (fun p=>forR (fun k x s=>slices_Equal_string_string_L1 s2_2 k x s) p.2.1 p.1 p.2.2=some o_12∧(s1_1).drop p.1=p.2.1) (fun p=>p.2.1.length) (0,s1_1,()) ⟨hj_13,rfl⟩ rfl (pre_r rfl) ?_)
   rintro ⟨k_4,l_5,s_9⟩ ⟨hL_11,hD_7⟩
   dsimp only at hL_11 hD_7
   cases l_5 with
   | nil =>
    obtain rfl:=some_inj hL_11
    refine wH_seq (wH_region (h_op (vB (decide ((k_4:Int) < (s1_1.length:Int)))) wz rfl (h_nil ?_)))
    refine wH_seq (wH_iff rfl (drop_nil hD_7) (wH_exit ?_))
    exact cut_mk (s_9) rfl rfl (pre_r rfl)
   | cons x_6 l_5 =>
    obtain ⟨c_,hc_10,hL_11⟩:=bind_some hL_11
    refine wH_seq (wH_region (h_op (vB (decide ((k_4:Int) < (s1_1.length:Int)))) wz rfl (h_nil ?_)))
    refine wH_seq (wH_ift rfl (drop_cons hD_7) (wH_skip ?_))
    unfold slices_Equal_string_string_L1 at hc_10
    refine wH_seq (wH_block (wH_seq (wH_region (h_op (vI (k_4:Int)) wz rfl (h_op (vI (k_4:Int)) wz rfl (h_nil (wH_seq (wH_draws (h_op (vL eS s1_1) wz rfl (h_op (vI (k_4:Int)) wz rfl (h_ia es28 rfl rfl (drop_idx hD_7) rfl wz (h_ldc sz9 ag9 rfl (vS x_6) rfl wz (h_op (vL eS s2_2) wz rfl (h_op (vI (k_4:Int)) wz rfl ?_))))))))))))))
    obtain ⟨y_14,hy_15,hc_10⟩:=bind_some hc_10
    refine h_ia es28 rfl rfl hy_15 rfl wz (h_ldc sz9 ag9 rfl (vS y_14) rfl wz (h_op (vB (sNe x_6 y_14)) wz rfl (h_nil ?_)))
    rcases cond_some hc_10 with⟨hc_16,hc_10⟩ | ⟨hc_16,hc_10⟩
    ·refine wH_ift rfl hc_16 (wH_seq (wH_region (h_op (vB false) wz rfl (h_nil ?_))))
     obtain rfl:=some_inj hc_10
     obtain rfl:=some_inj hL_11
     obtain rfl:=some_inj hF
     exact wH_ret (fin0 (.inr rfl) [(vB false)] ⟨rfl,trivial⟩ rfl rfl rfl)
    ·refine wH_iff rfl hc_16 (wH_skip (wH_region (h_opw (w64_next hD_7 hn_8) wz rfl (h_op (vI ((k_4 + 1:Nat):Int)) wz rfl (h_nil ?_)))))
     obtain rfl:=some_inj hc_10
     exact loop_mk (k_4 + 1,l_5,()) ⟨hL_11,drop_next hD_7⟩ (Nat.lt_succ_self _) rfl (pre_r rfl)
  ·rintro s_9 ho_ sl_ H_ hp_ hq_
   subst ho_
   refine wH_at _ hp_ hq_ (wH_seq (wH_region (h_op (vB true) wz rfl (h_nil ?_))))
   obtain rfl:=some_inj hF
   exact wH_ret (fin0 (.inr rfl) [(vB true)] ⟨rfl,trivial⟩ rfl rfl rfl)
theorem ref_TimesOf_ok {e_1:Entry} {zone_2:Int} {wv_3:Window} {r:(List Window)} (hF:ref_TimesOf e_1 zone_2 wv_3=some r) :
  FnM Tryz.prog 90 [(.d (.agg (Entry.enc e_1))),(vI zone_2),(.d (.agg (Window.enc wv_3)))] [] (vL Window.enc r) []:=by
 refine FnM.of_wH ⟨Tryz.prog,54,[],[]⟩ rfl Tryz.func90 rfl rfl (Nat.le_of_ble_eq_true rfl) (by kernel_rfl) ?_
 unfold ref_TimesOf at hF
 refine wH_seq (wH_region (h_box 0 (.inl rfl) [(vS e_1.Key),(vS e_1.Item),(vI e_1.Version),(vI e_1.First),(vI e_1.Last),(vI e_1.Every),(vI e_1.Days),(vL eI e_1.Except),(vI e_1.From),(vI e_1.To),(vI e_1.Prio),(vL eS e_1.Tags),(vB e_1.Gone)] rfl rfl wz (fun n_4=>h_box 0 (.inl rfl) [(vI wv_3.From),(vI wv_3.To)] rfl rfl wz (fun n_5=>h_op .nil wz rfl (h_nil (wH_seq (wH_region (h_op .nil wz rfl (h_nil (wH_seq (wH_seq (wH_region (h_far pl55_3 rfl 3 rfl wz (h_ldr 0 0 il ft sz3 ag3 rfl rfl (vI e_1.First) rfl wz (h_op (vI e_1.First) wz rfl (h_nil (wH_new (fun n_12 => ?_))))))))))))))))))
 obtain ⟨o_17,hj_18,hF⟩:=bind_some hF
 obtain ⟨nq_36,hj_18⟩:=loopO_iter hj_18
 refine wH_join (β:=((List Window)×Int)×Nm) (fun p=>(fun (s_11:(List Window)×Int) (n_14:Nm)=>([(7,(gV n_14 2 s_11.1))]:List (Nat×V))) p.1 p.2) (fun p=>(fun (s_11:(List Window)×Int) (n_14:Nm)=>([(n_4,some (.cells 13 [(vS e_1.Key),(vS e_1.Item),(vI e_1.Version),(vI e_1.First),(vI e_1.Last),(vI e_1.Every),(vI e_1.Days),(vL eI e_1.Except),(vI e_1.From),(vI e_1.To),(vI e_1.Prio),(vL eS e_1.Tags),(vB e_1.Gone)])),(n_5,some (.cells 2 [(vI wv_3.From),(vI wv_3.To)])),(n_14,gB 2 Window.enc s_11.1)]:Hp)) p.1 p.2) (fun p=>o_17 = .go p.1) ?_ ?_
 ·refine wH_block (wH_loop (β:=Nat×((List Window)×Int)×Nm) (fun p=>(fun (k_6:Nat) (s_11:(List Window)×Int) (n_14:Nm)=>([(1,(vI zone_2)),(3,(.ref n_4 0 0)),(5,(.ref n_5 0 0)),(7,(gV n_14 2 s_11.1)),(8,(vI s_11.2))]:List (Nat×V))) p.1 p.2.1 p.2.2) (fun p=>(fun (k_6:Nat) (s_11:(List Window)×Int) (n_14:Nm)=>([(n_4,some (.cells 13 [(vS e_1.Key),(vS e_1.Item),(vI e_1.Version),(vI e_1.First),(vI e_1.Last),(vI e_1.Every),(vI e_1.Days),(vL eI e_1.Except),(vI e_1.From),(vI e_1.To),(vI e_1.Prio),(vL eS e_1.Tags),(vB e_1.Gone)])),(n_5,some (.cells 2 [(vI wv_3.From),(vI wv_3.To)])),(n_14,gB 2 Window.enc s_11.1)]:Hp)) p.1 p.2.1 p.2.2) (fun p=>iterN (fun s=>ref_TimesOf_L1 e_1 zone_2 wv_3 s) p.1 p.2.1=some o_17) (fun p=>p.1) (nq_36,(([]:List Window),e_1.First),n_12) hj_18 rfl (pre_r rfl) ?_)
  rintro ⟨k_6,s_11,n_14⟩ hL_16
  dsimp only at hL_16
  cases k_6 with
  | zero=>cases hL_16
  | succ k_6 =>
   obtain ⟨c_,hc_15,hL_16⟩:=bind_some hL_16
   unfold ref_TimesOf_L1 at hc_15
   refine wH_seq (wH_seq (wH_region (h_op (vI s_11.2) wz rfl (h_far pl55_4 rfl 4 rfl wz (h_ldr 0 0 il ft sz3 ag3 rfl rfl (vI e_1.Last) rfl wz (h_op (vB (decide (s_11.2≤e_1.Last))) wz rfl (h_nil ?_)))))))
   rcases cond_some hc_15 with⟨hc_19,hc_15⟩ | ⟨hc_19,hc_15⟩
   ·refine wH_ift rfl hc_19 (wH_skip (wH_seq (wH_block (wH_seq (wH_region (h_ldr 0 0 il ft sz55 ag55 rfl rfl (.d (.agg (Entry.enc e_1))) rfl wz (h_op (vI zone_2) wz rfl (h_op (vI s_11.2) wz rfl ?_))))))))
    obtain ⟨r_20,hr_21,hc_15⟩:=bind_some hc_15
    refine h_call0 (ref_timeOf_ok hr_21) rfl hb83 rfl rfl rfl rfl wz (h_alloc 0 (.inl rfl) z65 rfl wz (fun n_22=>h_str 0 il ft 3 sz65 rfl rfl [(vI r_20.From),(vI r_20.To)] rfl wz (h_nil (wH_seq (wH_draws (h_far pl65_0 rfl 0 rfl wz (h_ldr 1 3 (.inr (by kernel_rfl)) (fun _ _ ag=>trivial) sz3 ag3 rfl rfl (vI r_20.From) rfl wz (h_far pl65_0 rfl 0 rfl wz (h_ldr 3 1 (.inr (by kernel_rfl)) (fun _ _ ag=>⟨.inl ⟨rfl,rfl⟩,trivial⟩) sz3 ag3 rfl rfl (vI wv_3.From) rfl wz (h_minmax (vI (maxI r_20.From wv_3.From)) rfl (.inr rfl) wz (h_far pl65_1 rfl 1 rfl wz (h_ldr 6 3 (.inr (by kernel_rfl)) (fun _ _ ag=>⟨.inl ⟨rfl,rfl⟩,⟨.inl ⟨rfl,rfl⟩,trivial⟩⟩) sz3 ag3 rfl rfl (vI r_20.To) rfl wz (h_far pl65_1 rfl 1 rfl wz (h_ldr 8 1 (.inr (by kernel_rfl)) (fun _ _ ag=>⟨.inl ⟨rfl,rfl⟩,⟨.inl ⟨rfl,rfl⟩,⟨.inl ⟨rfl,rfl⟩,trivial⟩⟩⟩) sz3 ag3 rfl rfl (vI wv_3.To) rfl wz (h_minmax (vI (minI r_20.To wv_3.To)) rfl (.inl rfl) wz (h_far pl65_0 rfl 0 rfl wz (h_str 11 (.inr (by kernel_rfl)) (fun _ _ ag=>⟨.inr (.inr (by kernel_rfl)),⟨.inr (.inr (by kernel_rfl)),⟨.inr (.inr (by kernel_rfl)),⟨.inr (.inl (dis1 (ag_ne ag (i:=3) (j:=1) rfl rfl (by decide)))),trivial⟩⟩⟩⟩) 3 sz3 rfl rfl [(vI (maxI r_20.From wv_3.From)),(vI r_20.To)] rfl wz (h_far pl65_1 rfl 1 rfl wz (h_str 13 (.inr (by kernel_rfl)) (fun _ _ ag=>⟨.inr (.inr (by kernel_rfl)),⟨.inr (.inr (by kernel_rfl)),⟨.inr (.inr (by kernel_rfl)),⟨.inr (.inr (by kernel_rfl)),⟨.inr (.inr (by kernel_rfl)),trivial⟩⟩⟩⟩⟩) 3 sz3 rfl rfl [(vI (maxI r_20.From wv_3.From)),(vI (minI r_20.To wv_3.To))] rfl wz (h_nil (wH_seq ?_)))))))))))))))))))))
    obtain ⟨v_23,h_24,hc_15⟩:=bind_some hc_15
    refine wH_join (β:=Unit) (fun _=>([(1,(vI zone_2)),(3,(.ref n_4 0 0)),(5,(.ref n_5 0 0)),(7,(gV n_14 2 s_11.1)),(8,(vI s_11.2)),(9,(.ref n_22 0 0)),(48,(vB v_23))]:List (Nat×V))) (fun _=>([(n_4,some (.cells 13 [(vS e_1.Key),(vS e_1.Item),(vI e_1.Version),(vI e_1.First),(vI e_1.Last),(vI e_1.Every),(vI e_1.Days),(vL eI e_1.Except),(vI e_1.From),(vI e_1.To),(vI e_1.Prio),(vL eS e_1.Tags),(vB e_1.Gone)])),(n_5,some (.cells 2 [(vI wv_3.From),(vI wv_3.To)])),(n_14,gB 2 Window.enc s_11.1),(n_22,some (.cells 2 [(vI (maxI r_20.From wv_3.From)),(vI (minI r_20.To wv_3.To))]))]:Hp)) (fun _=>True) ?_ ?_
    ·refine wH_region (h_far pl55_12 rfl 12 rfl wz (h_ldr 0 0 il ft sz4 ag4 rfl rfl (vB e_1.Gone) rfl wz (h_op (vB (!e_1.Gone)) wz rfl ?_)))
     rcases cond_some h_24 with⟨hc_25,h_24⟩ | ⟨hc_25,h_24⟩
     ·refine h_movb rfl hc_25 wz (h_ldr 0 0 il ft sz55 ag55 rfl rfl (.d (.agg (Entry.enc e_1))) rfl wa (h_op (vI s_11.2) wa rfl ?_))
      obtain ⟨r_26,hr_27,h_24⟩:=bind_some h_24
      refine h_call0 (ref_dayOf_ok hr_27) rfl hb84 rfl rfl rfl rfl wa (h_op (vB r_26) wz rfl ?_)
      rcases cond_some h_24 with⟨hc_28,h_24⟩ | ⟨hc_28,h_24⟩
      ·refine h_movb rfl hc_28 wz (h_far pl65_0 rfl 0 rfl wa (h_ldr 0 3 il ft sz3 ag3 rfl rfl (vI (maxI r_20.From wv_3.From)) rfl wa (h_far pl65_1 rfl 1 rfl wa (h_ldr 0 3 il ft sz3 ag3 rfl rfl (vI (minI r_20.To wv_3.To)) rfl wa (h_op (vB (decide ((maxI r_20.From wv_3.From) < (minI r_20.To wv_3.To)))) wa rfl (h_op (vB (decide ((maxI r_20.From wv_3.From) < (minI r_20.To wv_3.To)))) wz rfl (h_nil ?_)))))))
       obtain rfl:=some_inj h_24
       exact cu
      ·refine h_movb rfl hc_28 wz (h_skip wa (h_skip wa (h_skip wa (h_skip wa (h_skip wa (h_op (vB false) wz rfl (h_nil ?_)))))))
       obtain rfl:=some_inj h_24
       exact cu
     ·refine h_movb rfl hc_25 wz (h_skip wa (h_skip wa (h_skip wa (h_op (vB false) wz rfl (h_op (vB false) wz rfl (h_skip wa (h_skip wa (h_skip wa (h_skip wa (h_skip wa (h_op (vB false) wz rfl (h_nil ?_))))))))))))
      obtain rfl:=some_inj h_24
      exact cu
    ·rintro ⟨⟩ _ sl_ H_ hp_ hq_
     refine wH_at _ hp_ hq_ ?_
     obtain ⟨v_29,h_30,hc_15⟩:=bind_some hc_15
     refine wH_join (β:=Nm) (fun (n_31:Nm)=>([(1,(vI zone_2)),(3,(.ref n_4 0 0)),(5,(.ref n_5 0 0)),(7,(gV n_31 2 v_29)),(8,(vI s_11.2))]:List (Nat×V))) (fun (n_31:Nm)=>([(n_4,some (.cells 13 [(vS e_1.Key),(vS e_1.Item),(vI e_1.Version),(vI e_1.First),(vI e_1.Last),(vI e_1.Every),(vI e_1.Days),(vL eI e_1.Except),(vI e_1.From),(vI e_1.To),(vI e_1.Prio),(vL eS e_1.Tags),(vB e_1.Gone)])),(n_5,some (.cells 2 [(vI wv_3.From),(vI wv_3.To)])),(n_31,gB 2 Window.enc v_29),(n_22,some (.cells 2 [(vI (maxI r_20.From wv_3.From)),(vI (minI r_20.To wv_3.To))]))]:Hp)) (fun _=>True) ?_ ?_
     ·rcases cond_some h_30 with⟨hc_32,h_30⟩ | ⟨hc_32,h_30⟩
      ·refine wH_ift rfl hc_32 (wH_region (h_op (gV n_14 2 s_11.1) wz rfl (h_ldr 0 3 il ft sz65 ag65 rfl rfl (.d (.agg (Window.enc (⟨(maxI r_20.From wv_3.From),(minI r_20.To wv_3.To)⟩:Window)))) rfl wz (h_lit (([(⟨(maxI r_20.From wv_3.From),(minI r_20.To wv_3.To)⟩:Window)]:List Window).map Window.enc) es78 ez78 rfl rfl rfl rfl rfl wz ?_))))
       obtain ⟨a_33,hz_34,h_30⟩:=bind_some h_30
       refine h_appg 0 il ft (i:=2) el78 el78 sz65 z65 rfl (by decide) by65 (by decide) (fun _=>rfl) rfl rfl rfl hz_34 wz (fun n_35=>h_op (gV n_35 2 a_33) wz rfl (h_nil ?_))
       obtain rfl:=some_inj h_30
       exact cut_mk n_35 trivial rfl (pre_r rfl)
      ·refine wH_iff rfl hc_32 (wH_skip ?_)
       obtain rfl:=some_inj h_30
       exact cut_mk n_14 trivial rfl (pre_r rfl)
     ·rintro n_31 _ sl_ H_ hp_ hq_
      refine wH_at _ hp_ hq_ (wH_region (h_op (vI s_11.2) wz rfl (h_op (vI (w64 (s_11.2 + 1))) wz rfl (h_op (vI (w64 (s_11.2 + 1))) wz rfl (h_nil ?_)))))
      obtain rfl:=some_inj hc_15
      exact loop_mk (k_6,(v_29,(w64 (s_11.2 + 1))),n_31) hL_16 (Nat.lt_succ_self _) rfl (pre_r rfl)
   ·refine wH_iff rfl hc_19 (wH_exit ?_)
    obtain rfl:=some_inj hc_15
    obtain rfl:=some_inj hL_16
    exact cut_mk ((s_11.1,s_11.2),n_14) rfl rfl (pre_r rfl)
 ·rintro ⟨s_11,n_14⟩ ho_ sl_ H_ hp_ hq_
  subst ho_
  refine wH_at _ hp_ hq_ (wH_seq (wH_region (h_op (gV n_14 2 s_11.1) wz rfl (h_op (gV n_14 2 s_11.1) wz rfl (h_nil (wH_frozg 2 rfl (wH_cog 6 2 rfl rfl (wH_cog 7 2 rfl rfl (wH_cog 53 2 rfl rfl ?_)))))))))
  obtain rfl:=some_inj hF
  exact wH_ret (fin0 (.inr rfl) [(vL Window.enc s_11.1)] ⟨rfl,trivial⟩ rfl rfl rfl)
theorem ref_bounds_ok {l_1:(List Entry)} {zone_2:Int} {wv_3:Window} {r:(List Int)} (hF:ref_bounds l_1 zone_2 wv_3=some r) :
  FnM Tryz.prog 67 [(vL Entry.enc l_1),(vI zone_2),(.d (.agg (Window.enc wv_3)))] [] (vL eI r) []:=by
 refine FnM.of_wH ⟨Tryz.prog,45,[16],[]⟩ rfl Tryz.func67 rfl rfl (Nat.le_of_ble_eq_true rfl) (by kernel_rfl) ?_
 unfold ref_bounds at hF
 refine wH_seq (wH_region (h_box 0 (.inl rfl) [(vI wv_3.From),(vI wv_3.To)] rfl rfl wz (fun n_4=>h_op .nil wz rfl (h_nil (wH_seq (wH_region (h_far pl65_0 rfl 0 rfl wz (h_ldr 0 0 il ft sz3 ag3 rfl rfl (vI wv_3.From) rfl wz (h_far pl65_1 rfl 1 rfl wz (h_ldr 0 0 il ft sz3 ag3 rfl rfl (vI wv_3.To) rfl wz (h_litv 0 (.inl rfl) (([wv_3.From,wv_3.To]:List Int).map eI) es22 ez22 rfl rfl rfl rfl rfl wz (fun n_5=>h_op (vV n_5 1 ([wv_3.From,wv_3.To]:List Int)) wz rfl (h_nil (wH_seq (wH_seq (wH_region (h_op (vL Entry.enc l_1) wz rfl (h_len un26 rfl wz (h_op (vI 0) wz rfl (h_nil ?_))))))))))))))))))))
 obtain ⟨o_16,hj_17,hF⟩:=bind_some hF
 obtain ⟨hn_10,hj_17⟩:=forL_some hj_17
 refine wH_join (β:=((List Int))×Nm) (fun p=>(fun (s_11:(List Int)) (n_13:Nm)=>([(7,(vV n_13 1 s_11))]:List (Nat×V))) p.1 p.2) (fun p=>(fun (s_11:(List Int)) (n_13:Nm)=>([(n_4,some (.cells 2 [(vI wv_3.From),(vI wv_3.To)])),(n_13,some (bV 1 eI s_11))]:Hp)) p.1 p.2) (fun p=>o_16 = .go p.1) ?_ ?_
 ·refine wH_block (wH_loop (β:=Nat×(List Entry)×((List Int))×Nm) (fun p=>(fun (k_6:Nat) (l_7:List Entry) (s_11:(List Int)) (n_13:Nm)=>([(1,(vI zone_2)),(5,(.ref n_4 0 0)),(7,(vV n_13 1 s_11)),(17,(vL Entry.enc l_1)),(18,(vI (l_1.length:Int))),(19,(vI (k_6:Int)))]:List (Nat×V))) p.1 p.2.1 p.2.2.1 p.2.2.2) (fun p=>(fun (k_6:Nat) (l_7:List Entry) (s_11:(List Int)) (n_13:Nm)=>([(n_4,some (.cells 2 [(vI wv_3.From),(vI wv_3.To)])),(n_13,some (bV 1 eI s_11))]:Hp)) p.1 p.2.1 p.2.2.1 p.2.2.2) (fun p=>forR (fun k x s=>ref_bounds_L2 zone_2 wv_3 k x s) p.2.1 p.1 p.2.2.1=some o_16∧(l_1).drop p.1=p.2.1) (fun p=>p.2.1.length) (0,l_1,([wv_3.From,wv_3.To]:List Int),n_5) ⟨hj_17,rfl⟩ rfl (pre_r rfl) ?_)
  rintro ⟨k_6,l_7,s_11,n_13⟩ ⟨hL_15,hD_9⟩
  dsimp only at hL_15 hD_9
  cases l_7 with
  | nil =>
   obtain rfl:=some_inj hL_15
   refine wH_seq (wH_region (h_op (vB (decide ((k_6:Int) < (l_1.length:Int)))) wz rfl (h_nil ?_)))
   refine wH_seq (wH_iff rfl (drop_nil hD_9) (wH_exit ?_))
   exact cut_mk (s_11,n_13) rfl rfl (pre_r rfl)
  | cons x_8 l_7 =>
   obtain ⟨c_,hc_14,hL_15⟩:=bind_some hL_15
   refine wH_seq (wH_region (h_op (vB (decide ((k_6:Int) < (l_1.length:Int)))) wz rfl (h_nil ?_)))
   refine wH_seq (wH_ift rfl (drop_cons hD_9) (wH_skip ?_))
   unfold ref_bounds_L2 at hc_14
   refine wH_seq (wH_block (wH_seq (wH_region (h_ia es26 rfl rfl (drop_idx hD_9) rfl wz (h_ldc sz55 ag55 rfl (.d (.agg (Entry.enc x_8))) rfl wz (h_alloc 0 (.inl rfl) z55 rfl wz (fun n_18=>h_str 0 il ft 2 sz55 rfl rfl [(vS x_8.Key),(vS x_8.Item),(vI x_8.Version),(vI x_8.First),(vI x_8.Last),(vI x_8.Every),(vI x_8.Days),(vL eI x_8.Except),(vI x_8.From),(vI x_8.To),(vI x_8.Prio),(vL eS x_8.Tags),(vB x_8.Gone)] rfl wz (h_nil (wH_seq (wH_region (h_ldr 0 2 il ft sz55 ag55 rfl rfl (.d (.agg (Entry.enc x_8))) rfl wz (h_op (vI zone_2) wz rfl (h_ldr 0 0 il ft sz65 ag65 rfl rfl (.d (.agg (Window.enc wv_3))) rfl wz ?_)))))))))))))
   obtain ⟨r_19,hr_20,hc_14⟩:=bind_some hc_14
   refine h_call0 (ref_TimesOf_ok hr_20) rfl hb90 rfl rfl rfl rfl wz (h_len un78 rfl wz (h_op (vI 0) wz rfl (h_nil ?_)))
   obtain ⟨o_31,hj_32,hc_14⟩:=bind_some hc_14
   obtain ⟨hn_25,hj_32⟩:=forL_some hj_32
   refine wH_join (β:=((List Int))×Nm) (fun p=>(fun (s_26:(List Int)) (n_28:Nm)=>([(1,(vI zone_2)),(5,(.ref n_4 0 0)),(7,(vV n_28 1 s_26)),(17,(vL Entry.enc l_1)),(18,(vI (l_1.length:Int))),(19,(vI (k_6:Int)))]:List (Nat×V))) p.1 p.2) (fun p=>(fun (s_26:(List Int)) (n_28:Nm)=>([(n_4,some (.cells 2 [(vI wv_3.From),(vI wv_3.To)])),(n_28,some (bV 1 eI s_26)),(n_18,some (.cells 13 [(vS x_8.Key),(vS x_8.Item),(vI x_8.Version),(vI x_8.First),(vI x_8.Last),(vI x_8.Every),(vI x_8.Days),(vL eI x_8.Except),(vI x_8.From),(vI x_8.To),(vI x_8.Prio),(vL eS x_8.Tags),(vB x_8.Gone)]))]:Hp)) p.1 p.2) (fun p=>o_31 = .go p.1) ?_ ?_
   ·refine wH_block (wH_loop (β:=Nat×(List Window)×((List Int))×Nm) (fun p=>(fun (k_21:Nat) (l_22:List Window) (s_26:(List Int)) (n_28:Nm)=>([(1,(vI zone_2)),(5,(.ref n_4 0 0)),(7,(vV n_28 1 s_26)),(17,(vL Entry.enc l_1)),(18,(vI (l_1.length:Int))),(19,(vI (k_6:Int))),(26,(vL Window.enc r_19)),(27,(vI (r_19.length:Int))),(28,(vI (k_21:Int)))]:List (Nat×V))) p.1 p.2.1 p.2.2.1 p.2.2.2) (fun p=>(fun (k_21:Nat) (l_22:List Window) (s_26:(List Int)) (n_28:Nm)=>([(n_4,some (.cells 2 [(vI wv_3.From),(vI wv_3.To)])),(n_28,some (bV 1 eI s_26)),(n_18,some (.cells 13 [(vS x_8.Key),(vS x_8.Item),(vI x_8.Version),(vI x_8.First),(vI x_8.Last),(vI x_8.Every),(vI x_8.Days),(vL eI x_8.Except),(vI x_8.From),(vI x_8.To),(vI x_8.Prio),(vL eS x_8.Tags),(vB x_8.Gone)]))]:Hp)) p.1 p.2.1 p.2.2.1 p.2.2.2) (fun p=>forR (fun k x s=>ref_bounds_L1 k x s) p.2.1 p.1 p.2.2.1=some o_31∧(r_19).drop p.1=p.2.1) (fun p=>p.2.1.length) (0,r_19,s_11,n_13) ⟨hj_32,rfl⟩ rfl (pre_r rfl) ?_)
    rintro ⟨k_21,l_22,s_26,n_28⟩ ⟨hL_30,hD_24⟩
    dsimp only at hL_30 hD_24
    cases l_22 with
    | nil =>
     obtain rfl:=some_inj hL_30
     refine wH_seq (wH_region (h_op (vB (decide ((k_21:Int) < (r_19.length:Int)))) wz rfl (h_nil ?_)))
     refine wH_seq (wH_iff rfl (drop_nil hD_24) (wH_exit ?_))
     exact cut_mk (s_26,n_28) rfl rfl (pre_r rfl)
    | cons x_23 l_22 =>
     obtain ⟨c_,hc_29,hL_30⟩:=bind_some hL_30
     refine wH_seq (wH_region (h_op (vB (decide ((k_21:Int) < (r_19.length:Int)))) wz rfl (h_nil ?_)))
     refine wH_seq (wH_ift rfl (drop_cons hD_24) (wH_skip ?_))
     unfold ref_bounds_L1 at hc_29
     refine wH_seq (wH_block (wH_seq (wH_region (h_ia es78 rfl rfl (drop_idx hD_24) rfl wz (h_ldc sz65 ag65 rfl (.d (.agg (Window.enc x_23))) rfl wz (h_alloc 0 (.inl rfl) z65 rfl wz (fun n_33=>h_str 0 il ft 3 sz65 rfl rfl [(vI x_23.From),(vI x_23.To)] rfl wz (h_nil (wH_region (h_op (vV n_28 1 s_26) wz rfl (h_far pl65_0 rfl 0 rfl wz (h_ldr 0 3 il ft sz3 ag3 rfl rfl (vI x_23.From) rfl wz (h_far pl65_1 rfl 1 rfl wz (h_ldr 0 3 il ft sz3 ag3 rfl rfl (vI x_23.To) rfl wz (h_lit (([x_23.From,x_23.To]:List Int).map eI) es22 ez22 rfl rfl rfl rfl rfl wz ?_)))))))))))))))
     obtain ⟨a_34,hz_35,hc_29⟩:=bind_some hc_29
     refine h_appv 0 il ft (i:=1) el22 el22 sz3 z3 rfl (by decide) by3 (by decide) (fun _=>rfl) rfl rfl rfl hz_35 wz (fun n_36=>h_op (vV n_36 1 a_34) wz rfl (h_nil (wH_region (h_opw (w64_next hD_24 hn_25) wz rfl (h_op (vI ((k_21 + 1:Nat):Int)) wz rfl (h_nil ?_))))))
     obtain rfl:=some_inj hc_29
     exact loop_mk (k_21 + 1,l_22,a_34,n_36) ⟨hL_30,drop_next hD_24⟩ (Nat.lt_succ_self _) rfl (pre_r rfl)
   ·rintro ⟨s_26,n_28⟩ ho_ sl_ H_ hp_ hq_
    subst ho_
    refine wH_at _ hp_ hq_ (wH_region (h_opw (w64_next hD_9 hn_10) wz rfl (h_op (vI ((k_6 + 1:Nat):Int)) wz rfl (h_nil ?_))))
    obtain rfl:=some_inj hc_14
    exact loop_mk (k_6 + 1,l_7,s_26,n_28) ⟨hL_15,drop_next hD_9⟩ (Nat.lt_succ_self _) rfl (pre_r rfl)
 ·rintro ⟨s_11,n_13⟩ ho_ sl_ H_ hp_ hq_
  subst ho_
  refine wH_at _ hp_ hq_ (wH_seq (wH_region (h_op (vV n_13 1 s_11) wz rfl ?_)))
  obtain ⟨_,hn_37,hF⟩:=bind_some hF
  replace hn_37:=neL_ne hn_37
  refine h_reH 1 rfl (gB_cons hn_37).symm (h_re (v':=(gV n_13 1 s_11)) 41 rfl (vV_gV hn_37) (h_re (v':=(gV n_13 1 s_11)) 7 rfl (vV_gV hn_37) ?_))
  obtain ⟨r_38,hr_39,hF⟩:=bind_some hF
  obtain ⟨_,hs_40,hF⟩:=bind_some hF
  replace hs_40:=sameL_eq hs_40
  refine h_callv 0 [] 1 0 il ft (slices_Sort_int_int_v1_ok hr_39) rfl hb76 rfl rfl rfl (by kernel_rfl) rfl (.inl rfl) rfl (by kernel_rfl) (by kernel_rfl) (by kernel_rfl) (by kernel_rfl) rfl (by decide) (by kernel_rfl) gB_ok (gB_ho hs_40) wz ([(n_4,some (.cells 2 [(vI wv_3.From),(vI wv_3.To)])),(n_13,gB 1 eI r_38)]:Hp) (by kernel_rfl) (h_re (v':=(gV n_13 1 r_38)) 41 rfl (gV_len hs_40.symm) (h_re (v':=(gV n_13 1 r_38)) 7 rfl (gV_len hs_40.symm) (h_nil (wH_seq (wH_region (h_op (gV n_13 1 r_38) wz rfl ?_))))))
  obtain ⟨r_41,hr_42,hF⟩:=bind_some hF
  refine h_callv 0 [] 1 0 il ft (slices_Compact_int_int_v1_ok hr_42) rfl hb77 rfl rfl rfl (by kernel_rfl) rfl (.inl rfl) rfl (by kernel_rfl) (by kernel_rfl) (by kernel_rfl) (by kernel_rfl) rfl (by decide) (by kernel_rfl) none_ok (fun _=>rfl) wz ([(n_4,some (.cells 2 [(vI wv_3.From),(vI wv_3.To)])),(n_13,none)]:Hp) (by kernel_rfl) (h_op (vL eI r_41) wz rfl (h_nil ?_))
  obtain rfl:=some_inj hF
  exact wH_ret (fin0 (.inr rfl) [(vL eI r_41)] ⟨rfl,trivial⟩ rfl rfl rfl)
theorem ref_ThroughOf_ok {l_1:(List Entry)} {p_2:Player} {wv_3:Window} {r:(List Slot_)} (hF:ref_ThroughOf l_1 p_2 wv_3=some r) :
  FnM Tryz.prog 40 [(vL Entry.enc l_1),(.d (.agg (Player.enc p_2))),(.d (.agg (Window.enc wv_3)))] [] (vL Slot_.enc r) []:=by
 refine FnM.of_wH ⟨Tryz.prog,71,[],[]⟩ rfl Tryz.func40 rfl rfl (Nat.le_of_ble_eq_true rfl) (by kernel_rfl) ?_
 unfold ref_ThroughOf at hF
 refine wH_seq (wH_region (h_box 0 (.inl rfl) [(vS p_2.Key),(vS p_2.Screen),(vI p_2.Zone),(vL eS p_2.Tags)] rfl rfl wz (fun n_4=>h_box 0 (.inl rfl) [(vI wv_3.From),(vI wv_3.To)] rfl rfl wz (fun n_5=>h_op .nil wz rfl (h_nil (wH_seq (wH_region (h_op .nil wz rfl (h_nil (wH_seq (wH_region (h_op (vL Entry.enc l_1) wz rfl (h_far pl30_2 rfl 2 rfl wz (h_ldr 0 0 il ft sz3 ag3 rfl rfl (vI p_2.Zone) rfl wz (h_ldr 0 1 il ft sz65 ag65 rfl rfl (.d (.agg (Window.enc wv_3))) rfl wz ?_)))))))))))))))
 obtain ⟨r_6,hr_7,hF⟩:=bind_some hF
 refine h_call0 (ref_bounds_ok hr_7) rfl hb67 rfl rfl rfl rfl wz (h_op (vL eI r_6) wz rfl (h_nil (wH_seq (wH_seq (wH_region (h_op (vI 1) wz rfl (h_nil (wH_new (fun n_14 => ?_)))))))))
 obtain ⟨o_19,hj_20,hF⟩:=bind_some hF
 obtain ⟨nq_45,hj_20⟩:=loopO_iter hj_20
 refine wH_join (β:=((List Slot_)×Int)×Nm) (fun p=>(fun (s_13:(List Slot_)×Int) (n_16:Nm)=>([(7,(gV n_16 3 s_13.1))]:List (Nat×V))) p.1 p.2) (fun p=>(fun (s_13:(List Slot_)×Int) (n_16:Nm)=>([(n_4,some (.cells 4 [(vS p_2.Key),(vS p_2.Screen),(vI p_2.Zone),(vL eS p_2.Tags)])),(n_5,some (.cells 2 [(vI wv_3.From),(vI wv_3.To)])),(n_16,gB 3 Slot_.enc s_13.1)]:Hp)) p.1 p.2) (fun p=>o_19 = .go p.1) ?_ ?_
 ·refine wH_block (wH_loop (β:=Nat×((List Slot_)×Int)×Nm) (fun p=>(fun (k_8:Nat) (s_13:(List Slot_)×Int) (n_16:Nm)=>([(0,(vL Entry.enc l_1)),(4,(.ref n_4 0 0)),(7,(gV n_16 3 s_13.1)),(8,(vL eI r_6)),(9,(vI s_13.2))]:List (Nat×V))) p.1 p.2.1 p.2.2) (fun p=>(fun (k_8:Nat) (s_13:(List Slot_)×Int) (n_16:Nm)=>([(n_4,some (.cells 4 [(vS p_2.Key),(vS p_2.Screen),(vI p_2.Zone),(vL eS p_2.Tags)])),(n_5,some (.cells 2 [(vI wv_3.From),(vI wv_3.To)])),(n_16,gB 3 Slot_.enc s_13.1)]:Hp)) p.1 p.2.1 p.2.2) (fun p=>iterN (fun s=>ref_ThroughOf_L1 r_6 l_1 p_2 s) p.1 p.2.1=some o_19) (fun p=>p.1) (nq_45,(([]:List Slot_),1),n_14) hj_20 rfl (pre_r rfl) ?_)
  rintro ⟨k_8,s_13,n_16⟩ hL_18
  dsimp only at hL_18
  cases k_8 with
  | zero=>cases hL_18
  | succ k_8 =>
   obtain ⟨c_,hc_17,hL_18⟩:=bind_some hL_18
   unfold ref_ThroughOf_L1 at hc_17
   refine wH_seq (wH_seq (wH_region (h_op (vI s_13.2) wz rfl (h_op (vL eI r_6) wz rfl (h_len un22 rfl wz (h_op (vB (decide (s_13.2 < (r_6.length:Int)))) wz rfl (h_nil ?_)))))))
   rcases cond_some hc_17 with⟨hc_21,hc_17⟩ | ⟨hc_21,hc_17⟩
   ·refine wH_ift rfl hc_21 (wH_skip (wH_seq (wH_block (wH_seq (wH_draws (h_op (vL Entry.enc l_1) wz rfl (h_ldr 1 0 (.inr (by kernel_rfl)) (fun _ _ ag=>trivial) sz30 ag30 rfl rfl (.d (.agg (Player.enc p_2))) rfl wz (h_op (vL eI r_6) wz rfl (h_op (vI s_13.2) wz rfl (h_op (vI (w64 (s_13.2 - 1))) wz rfl ?_))))))))))
    obtain ⟨y_22,hy_23,hc_17⟩:=bind_some hc_17
    refine h_ia es22 rfl rfl hy_23 rfl wz (h_ldc sz3 ag3 rfl (vI y_22) rfl wz ?_)
    obtain ⟨r_24,hr_25,hc_17⟩:=bind_some hc_17
    refine h_call0 (ref_onOf_ok hr_25) rfl hb37 rfl rfl rfl rfl wz (h_field fr55_0 rfl (vS r_24.Key) rfl wz (h_op (vS r_24.Key) wz rfl (h_nil (wH_seq (wH_seq (wH_region (h_op (gV n_16 3 s_13.1) wz rfl (h_leng un68 rfl wz (h_op (vI (w64 ((s_13.1.length:Int) - 1))) wz rfl (h_op (vI (w64 ((s_13.1.length:Int) - 1))) wz rfl (h_nil (wH_seq ?_))))))))))))
    obtain ⟨v_26,h_27,hc_17⟩:=bind_some hc_17
    refine wH_join (β:=Unit) (fun _=>([(0,(vL Entry.enc l_1)),(4,(.ref n_4 0 0)),(7,(gV n_16 3 s_13.1)),(8,(vL eI r_6)),(9,(vI s_13.2)),(10,(vS r_24.Key)),(11,(vI (w64 ((s_13.1.length:Int) - 1)))),(45,(vB v_26))]:List (Nat×V))) (fun _=>([(n_4,some (.cells 4 [(vS p_2.Key),(vS p_2.Screen),(vI p_2.Zone),(vL eS p_2.Tags)])),(n_5,some (.cells 2 [(vI wv_3.From),(vI wv_3.To)])),(n_16,gB 3 Slot_.enc s_13.1)]:Hp)) (fun _=>True) ?_ ?_
    ·refine wH_region (h_op (vI (w64 ((s_13.1.length:Int) - 1))) wz rfl (h_op (vB (decide ((w64 ((s_13.1.length:Int) - 1))≥0))) wz rfl ?_))
     rcases cond_some h_27 with⟨hc_28,h_27⟩ | ⟨hc_28,h_27⟩
     ·refine h_movb rfl hc_28 wz (h_op (gV n_16 3 s_13.1) wa rfl (h_op (vI (w64 ((s_13.1.length:Int) - 1))) wa rfl ?_))
      obtain ⟨_,hi_29,h_27⟩:=bind_some h_27
      refine h_iavg es68 rfl rfl (inR_0 hi_29) (inR_lt hi_29) wa (h_far pl71_1 rfl 2 rfl wa ?_)
      obtain ⟨e_30,hy_31,h_27⟩:=bind_some h_27
      refine h_ldvg 0 2 il ft sz9 ag9 rfl rfl hy_31 (vS e_30.Entry) rfl wa (h_op (vS r_24.Key) wa rfl (h_op (vB (sEq e_30.Entry r_24.Key)) wa rfl (h_op (vB (sEq e_30.Entry r_24.Key)) wz rfl (h_nil ?_))))
      obtain rfl:=some_inj h_27
      exact cu
     ·refine h_movb rfl hc_28 wz (h_skip wa (h_skip wa (h_skip wa (h_skip wa (h_skip wa (h_skip wa (h_skip wa (h_op (vB false) wz rfl (h_nil ?_)))))))))
      obtain rfl:=some_inj h_27
      exact cu
    ·rintro ⟨⟩ _ sl_ H_ hp_ hq_
     refine wH_at _ hp_ hq_ ?_
     rcases cond_some hc_17 with⟨hc_32,hc_17⟩ | ⟨hc_32,hc_17⟩
     ·refine wH_ift rfl hc_32 (wH_seq (wH_region (h_op (gV n_16 3 s_13.1) wz rfl (h_op (vI (w64 ((s_13.1.length:Int) - 1))) wz rfl (h_op (vL eI r_6) wz rfl (h_op (vI s_13.2) wz rfl ?_))))))
      obtain ⟨y_33,hy_34,hc_17⟩:=bind_some hc_17
      refine h_ia es22 rfl rfl hy_34 rfl wz (h_ldc sz3 ag3 rfl (vI y_33) rfl wz ?_)
      obtain ⟨_,hi_35,hc_17⟩:=bind_some hc_17
      refine h_iavg es68 rfl rfl (inR_0 hi_35) (inR_lt hi_35) wz (h_far pl71_0 rfl 0 rfl wz (h_far pl65_1 rfl 1 rfl wz ?_))
      obtain ⟨e_36,hy_37,hc_17⟩:=bind_some hc_17
      refine h_stvg 0 il ft 2 sz3 rfl rfl hy_37 (⟨(⟨e_36.Time.From,y_33⟩:Window),e_36.Entry⟩:Slot_) rfl wz (h_re (v':=(gV n_16 3 (s_13.1.set (0 + ((w64 ((s_13.1.length:Int) - 1))).toNat) (⟨(⟨e_36.Time.From,y_33⟩:Window),e_36.Entry⟩:Slot_)))) 7 rfl (gV_len (by simp)) (h_re (v':=(gV n_16 3 (s_13.1.set (0 + ((w64 ((s_13.1.length:Int) - 1))).toNat) (⟨(⟨e_36.Time.From,y_33⟩:Window),e_36.Entry⟩:Slot_)))) 46 rfl (gV_len (by simp)) (h_nil (wH_exit (wH_region (h_op (vI s_13.2) wz rfl (h_op (vI (w64 (s_13.2 + 1))) wz rfl (h_op (vI (w64 (s_13.2 + 1))) wz rfl (h_nil ?_)))))))))
      obtain rfl:=some_inj hc_17
      exact loop_mk (k_8,((s_13.1.set (0 + ((w64 ((s_13.1.length:Int) - 1))).toNat) (⟨(⟨e_36.Time.From,y_33⟩:Window),e_36.Entry⟩:Slot_)),(w64 (s_13.2 + 1))),n_16) hL_18 (Nat.lt_succ_self _) rfl (pre_r rfl)
     ·refine wH_iff rfl hc_32 (wH_skip (wH_draws (h_op (gV n_16 3 s_13.1) wz rfl (h_op (vL eI r_6) wz rfl (h_op (vI s_13.2) wz rfl (h_op (vI (w64 (s_13.2 - 1))) wz rfl ?_))))))
      obtain ⟨y_38,hy_39,hc_17⟩:=bind_some hc_17
      refine h_ia es22 rfl rfl hy_39 rfl wz (h_ldc sz3 ag3 rfl (vI y_38) rfl wz (h_op (vL eI r_6) wz rfl (h_op (vI s_13.2) wz rfl ?_)))
      obtain ⟨y_40,hy_41,hc_17⟩:=bind_some hc_17
      refine h_ia es22 rfl rfl hy_41 rfl wz (h_ldc sz3 ag3 rfl (vI y_40) rfl wz (h_op (.d (.agg (Window.enc (⟨y_38,y_40⟩:Window)))) wz (by kernel_rfl) (h_op (vS r_24.Key) wz rfl (h_op (.d (.agg (Slot_.enc (⟨(⟨y_38,y_40⟩:Window),r_24.Key⟩:Slot_)))) wz (by kernel_rfl) (h_lit (([(⟨(⟨y_38,y_40⟩:Window),r_24.Key⟩:Slot_)]:List Slot_).map Slot_.enc) es68 ez68 rfl rfl rfl rfl rfl wz ?_)))))
      obtain ⟨a_42,hz_43,hc_17⟩:=bind_some hc_17
      refine h_appg 14 (.inr (by kernel_rfl)) (fun _ _ ag=>trivial) (i:=2) el68 el68 sz71 z71 rfl (by decide) by71 (by decide) (fun _=>rfl) rfl rfl rfl hz_43 wz (fun n_44=>h_op (gV n_44 3 a_42) wz rfl (h_nil (wH_region (h_op (vI s_13.2) wz rfl (h_op (vI (w64 (s_13.2 + 1))) wz rfl (h_op (vI (w64 (s_13.2 + 1))) wz rfl (h_nil ?_)))))))
      obtain rfl:=some_inj hc_17
      exact loop_mk (k_8,(a_42,(w64 (s_13.2 + 1))),n_44) hL_18 (Nat.lt_succ_self _) rfl (pre_r rfl)
   ·refine wH_iff rfl hc_21 (wH_exit ?_)
    obtain rfl:=some_inj hc_17
    obtain rfl:=some_inj hL_18
    exact cut_mk ((s_13.1,s_13.2),n_16) rfl rfl (pre_r rfl)
 ·rintro ⟨s_13,n_16⟩ ho_ sl_ H_ hp_ hq_
  subst ho_
  refine wH_at _ hp_ hq_ (wH_seq (wH_region (h_op (gV n_16 3 s_13.1) wz rfl (h_op (gV n_16 3 s_13.1) wz rfl (h_nil (wH_frozg 2 rfl (wH_cog 6 2 rfl rfl (wH_cog 7 2 rfl rfl (wH_cog 70 2 rfl rfl ?_)))))))))
  obtain rfl:=some_inj hF
  exact wH_ret (fin0 (.inr rfl) [(vL Slot_.enc s_13.1)] ⟨rfl,trivial⟩ rfl rfl rfl)
theorem ref_NextOf_ok {l_1:(List Entry)} {p_2:Player} {atv_3:Int} {r:Int} (hF:ref_NextOf l_1 p_2 atv_3=some r) :
  FnM Tryz.prog 20 [(vL Entry.enc l_1),(.d (.agg (Player.enc p_2))),(vI atv_3)] [] (vI r) []:=by
 refine FnM.of_wH ⟨Tryz.prog,34,[],[]⟩ rfl Tryz.func20 rfl rfl (Nat.le_of_ble_eq_true rfl) (by kernel_rfl) ?_
 unfold ref_NextOf at hF
 refine wH_seq (wH_region (h_box 0 (.inl rfl) [(vS p_2.Key),(vS p_2.Screen),(vI p_2.Zone),(vL eS p_2.Tags)] rfl rfl wz (fun n_4=>h_op (vI 0) wz rfl (h_nil (wH_seq (wH_region (h_op (vI atv_3) wz rfl (h_op (vI (w64 (atv_3 + 34560000000))) wz rfl (h_op (vI (w64 (atv_3 + 34560000000))) wz rfl (h_nil (wH_seq (wH_region (h_op (vL Entry.enc l_1) wz rfl (h_ldr 0 0 il ft sz30 ag30 rfl rfl (.d (.agg (Player.enc p_2))) rfl wz (h_op (vI atv_3) wz rfl (h_op (vI (w64 (atv_3 + 34560000000))) wz rfl (h_op (vI (w64 ((w64 (atv_3 + 34560000000)) + 1))) wz rfl (h_op (.d (.agg (Window.enc (⟨atv_3,(w64 ((w64 (atv_3 + 34560000000)) + 1))⟩:Window)))) wz (by kernel_rfl) ?_))))))))))))))))))
 obtain ⟨r_5,hr_6,hF⟩:=bind_some hF
 refine h_call0 (ref_ThroughOf_ok hr_6) rfl hb40 rfl rfl rfl rfl wz (h_op (vL Slot_.enc r_5) wz rfl (h_nil (wH_seq (wH_seq ?_))))
 obtain ⟨v_7,h_8,hF⟩:=bind_some hF
 refine wH_join (β:=Unit) (fun _=>([(8,(vL Slot_.enc r_5)),(28,(vB v_7))]:List (Nat×V))) (fun _=>([(n_4,some (.cells 4 [(vS p_2.Key),(vS p_2.Screen),(vI p_2.Zone),(vL eS p_2.Tags)]))]:Hp)) (fun _=>True) ?_ ?_
 ·refine wH_region (h_op (vL Slot_.enc r_5) wz rfl (h_len un68 rfl wz (h_op (vB (decide ((r_5.length:Int) < 2))) wz rfl ?_)))
  rcases cond_some h_8 with⟨hc_9,h_8⟩ | ⟨hc_9,h_8⟩
  ·refine h_movb rfl hc_9 wz (h_skip wa (h_skip wa (h_skip wa (h_skip wa (h_skip wa (h_skip wa (h_op (vB true) wz rfl (h_nil ?_))))))))
   obtain rfl:=some_inj h_8
   exact cu
  ·refine h_movb rfl hc_9 wz (h_op (vL Slot_.enc r_5) wa rfl ?_)
   obtain ⟨y_10,hy_11,h_8⟩:=bind_some h_8
   refine h_ia es68 rfl rfl hy_11 rfl wa (h_fac pl71_0 rfl [.int .i64 y_10.Time.From,.int .i64 y_10.Time.To,.str y_10.Entry] rfl rfl wa (h_fac pl65_0 rfl [.int .i64 y_10.Time.From,.int .i64 y_10.Time.To,.str y_10.Entry] rfl rfl wa (h_ldc sz3 ag3 rfl (vI y_10.Time.From) rfl wa (h_op (vB (decide (y_10.Time.From≥345686400000))) wa rfl (h_op (vB (decide (y_10.Time.From≥345686400000))) wz rfl (h_nil ?_))))))
   obtain rfl:=some_inj h_8
   exact cu
 ·rintro ⟨⟩ _ sl_ H_ hp_ hq_
  refine wH_at _ hp_ hq_ ?_
  rcases cond_some hF with⟨hc_12,hF⟩ | ⟨hc_12,hF⟩
  ·refine wH_ift rfl hc_12 (wH_seq (wH_region (h_op (vI (-1)) wz rfl (h_nil ?_))))
   obtain rfl:=some_inj hF
   exact wH_ret (fin0 (.inr rfl) [(vI (-1))] ⟨rfl,trivial⟩ rfl rfl rfl)
  ·refine wH_iff rfl hc_12 (wH_skip (wH_seq (wH_region (h_op (vL Slot_.enc r_5) wz rfl ?_))))
   obtain ⟨y_13,hy_14,hF⟩:=bind_some hF
   refine h_ia es68 rfl rfl hy_14 rfl wz (h_fac pl71_0 rfl [.int .i64 y_13.Time.From,.int .i64 y_13.Time.To,.str y_13.Entry] rfl rfl wz (h_fac pl65_0 rfl [.int .i64 y_13.Time.From,.int .i64 y_13.Time.To,.str y_13.Entry] rfl rfl wz (h_ldc sz3 ag3 rfl (vI y_13.Time.From) rfl wz (h_op (vI y_13.Time.From) wz rfl (h_nil ?_)))))
   obtain rfl:=some_inj hF
   exact wH_ret (fin0 (.inr rfl) [(vI y_13.Time.From)] ⟨rfl,trivial⟩ rfl rfl rfl)
theorem law_EntriesCount_ok {l_1:(List Int)} {r:Bool} (hF:law_EntriesCount l_1=some r) :
  FnM Tryz.prog 3 [(vL eI l_1)] [] (vB r) []:=by
 refine FnM.of_wH ⟨Tryz.prog,142,[],[]⟩ rfl Tryz.func3 rfl rfl (Nat.le_of_ble_eq_true rfl) (by kernel_rfl) ?_
 unfold law_EntriesCount at hF
 refine wH_seq (wH_region (h_op (vB false) wz rfl (h_nil (wH_seq (wH_region (h_op (vL eI l_1) wz rfl (h_op (.d (.agg (Stream.enc (⟨l_1,0⟩:Stream)))) wz (by kernel_rfl) (h_box 0 (.inl rfl) [(vL eI l_1),(vI 0)] rfl rfl wz (fun n_2=>h_op (.ref n_2 0 0) wz rfl (h_nil (wH_seq (wH_region (h_op (.ref n_2 0 0) wz rfl ?_)))))))))))))
 obtain ⟨r_3,hr_4,hF⟩:=bind_some hF
 refine h_callq 0 [0] il ft (mk_Stream_Entries_ok hr_4) rfl hb4 rfl (by kernel_rfl) (by kernel_rfl) (by kernel_rfl) (by kernel_rfl) (by kernel_rfl) (by kernel_rfl) (by kernel_rfl) (by decide) (by kernel_rfl) wz (vL Entry.enc r_3.1) (by kernel_rfl) ([(n_2,some (.cells 2 [(vL eI r_3.2.L),(vI r_3.2.f_at)]))]:Hp) (by kernel_rfl) (h_op (.ref n_2 0 0) wz rfl ?_)
 obtain ⟨r_6,hr_7,hF⟩:=bind_some hF
 refine h_callq 0 [0] il ft (mk_Stream_Player_ok hr_7) rfl hb5 rfl (by kernel_rfl) (by kernel_rfl) (by kernel_rfl) (by kernel_rfl) (by kernel_rfl) (by kernel_rfl) (by kernel_rfl) (by decide) (by kernel_rfl) wz (.d (.agg (Player.enc r_6.1))) (by kernel_rfl) ([(n_2,some (.cells 2 [(vL eI r_6.2.L),(vI r_6.2.f_at)]))]:Hp) (by kernel_rfl) (h_op (.ref n_2 0 0) wz rfl ?_)
 obtain ⟨r_9,hr_10,hF⟩:=bind_some hF
 refine h_callq 0 [0] il ft (mk_Stream_Moment_ok hr_10) rfl hb6 rfl (by kernel_rfl) (by kernel_rfl) (by kernel_rfl) (by kernel_rfl) (by kernel_rfl) (by kernel_rfl) (by kernel_rfl) (by decide) (by kernel_rfl) wz (vI r_9.1) (by kernel_rfl) ([(n_2,some (.cells 2 [(vL eI r_9.2.L),(vI r_9.2.f_at)]))]:Hp) (by kernel_rfl) (h_alloc 0 (.inl rfl) z30 rfl wz (fun n_12=>h_op (vL Entry.enc r_3.1) wz rfl (h_str 0 il ft 1 sz30 rfl rfl [(vS r_6.1.Key),(vS r_6.1.Screen),(vI r_6.1.Zone),(vL eS r_6.1.Tags)] rfl wz (h_op (vI r_9.1) wz rfl (h_nil (wH_seq (wH_seq (wH_region (h_op (.ref n_2 0 0) wz rfl ?_)))))))))
 obtain ⟨r_13,hr_14,hF⟩:=bind_some hF
 refine h_callq 0 [0] il ft (mk_Stream_Flip_ok hr_14) rfl hb7 rfl (by kernel_rfl) (by kernel_rfl) (by kernel_rfl) (by kernel_rfl) (by kernel_rfl) (by kernel_rfl) (by kernel_rfl) (by decide) (by kernel_rfl) wz (vB r_13.1) (by kernel_rfl) ([(n_2,some (.cells 2 [(vL eI r_13.2.L),(vI r_13.2.f_at)])),(n_12,some (.cells 4 [(vS r_6.1.Key),(vS r_6.1.Screen),(vI r_6.1.Zone),(vL eS r_6.1.Tags)]))]:Hp) (by kernel_rfl) (h_nil ?_)
 obtain ⟨v_16,h_17,hF⟩:=bind_some hF
 refine wH_join (β:=Unit) (fun _=>([(4,(vL Entry.enc r_3.1)),(5,(.ref n_12 0 0)),(6,(vI v_16.1))]:List (Nat×V))) (fun _=>([(n_2,some (.cells 2 [(vL eI v_16.2.1),(vI v_16.2.2)])),(n_12,some (.cells 4 [(vS r_6.1.Key),(vS r_6.1.Screen),(vI r_6.1.Zone),(vL eS r_6.1.Tags)]))]:Hp)) (fun _=>True) ?_ ?_
 ·rcases cond_some h_17 with⟨hc_18,h_17⟩ | ⟨hc_18,h_17⟩
  ·refine wH_ift rfl hc_18 (wH_region (h_op (.ref n_2 0 0) wz rfl (h_lit (([345686399999,345686400000,345254400000]:List Int).map eI) es22 ez22 rfl rfl rfl rfl rfl wz ?_)))
   obtain ⟨r_19,hr_20,h_17⟩:=bind_some h_17
   refine h_callq 0 [0] il ft (mk_Stream_Pick_ok hr_20) rfl hb8 rfl (by kernel_rfl) (by kernel_rfl) (by kernel_rfl) (by kernel_rfl) (by kernel_rfl) (by kernel_rfl) (by kernel_rfl) (by decide) (by kernel_rfl) wz (vI r_19.1) (by kernel_rfl) ([(n_2,some (.cells 2 [(vL eI r_19.2.L),(vI r_19.2.f_at)])),(n_12,some (.cells 4 [(vS r_6.1.Key),(vS r_6.1.Screen),(vI r_6.1.Zone),(vL eS r_6.1.Tags)]))]:Hp) (by kernel_rfl) (h_op (vI r_19.1) wz rfl (h_nil ?_))
   obtain rfl:=some_inj h_17
   exact cu
  ·refine wH_iff rfl hc_18 (wH_skip ?_)
   obtain rfl:=some_inj h_17
   exact cu
 ·rintro ⟨⟩ _ sl_ H_ hp_ hq_
  refine wH_at _ hp_ hq_ (wH_seq (wH_region (h_op (vL Entry.enc r_3.1) wz rfl (h_ldr 0 1 il ft sz30 ag30 rfl rfl (.d (.agg (Player.enc r_6.1))) rfl wz (h_op (vI v_16.1) wz rfl ?_)))))
  obtain ⟨r_22,hr_23,hF⟩:=bind_some hF
  refine h_call0 (schedule_On_ok hr_23) rfl hb9 rfl rfl rfl rfl wz (h_op (.tup [(vS r_22.1),(vB r_22.2.1),(vI r_22.2.2)]) wz rfl (h_op (vS r_22.1) wz rfl (h_op (vB r_22.2.1) wz rfl (h_op (vI r_22.2.2) wz rfl (h_op (vS r_22.1) wz rfl (h_op (vB r_22.2.1) wz rfl (h_op (vI r_22.2.2) wz rfl (h_nil (wH_seq (wH_region (h_op (vL Entry.enc r_3.1) wz rfl (h_ldr 0 1 il ft sz30 ag30 rfl rfl (.d (.agg (Player.enc r_6.1))) rfl wz (h_op (vI v_16.1) wz rfl ?_)))))))))))))
  obtain ⟨r_24,hr_25,hF⟩:=bind_some hF
  refine h_call0 (schedule_Why_ok hr_25) rfl hb10 rfl rfl rfl rfl wz (h_op (.tup [(vL eS r_24.1),(vI r_24.2)]) wz rfl (h_op (vL eS r_24.1) wz rfl (h_op (vI r_24.2) wz rfl (h_op (vL eS r_24.1) wz rfl (h_op (vI r_24.2) wz rfl (h_nil (wH_seq (wH_region (h_op (vL Entry.enc r_3.1) wz rfl (h_ldr 0 1 il ft sz30 ag30 rfl rfl (.d (.agg (Player.enc r_6.1))) rfl wz (h_op (vI v_16.1) wz rfl ?_)))))))))))
  obtain ⟨r_26,hr_27,hF⟩:=bind_some hF
  refine h_call0 (schedule_Next_ok hr_27) rfl hb11 rfl rfl rfl rfl wz (h_op (.tup [(vI r_26.1),(vI r_26.2)]) wz rfl (h_op (vI r_26.1) wz rfl (h_op (vI r_26.2) wz rfl (h_op (vI r_26.1) wz rfl (h_op (vI r_26.2) wz rfl (h_nil (wH_seq (wH_draws (h_op (vL Entry.enc r_3.1) wz rfl ?_)))))))))
  obtain ⟨r_28,hr_29,hF⟩:=bind_some hF
  refine h_call0 (ref_EntriesFault_ok hr_29) rfl hb13 rfl rfl rfl rfl wz (h_ldr 2 1 (.inr (by kernel_rfl)) (fun _ _ ag=>trivial) sz30 ag30 rfl rfl (.d (.agg (Player.enc r_6.1))) rfl wz ?_)
  obtain ⟨r_30,hr_31,hF⟩:=bind_some hF
  refine h_call0 (ref_PlayerFault_ok hr_31) rfl hb14 rfl rfl rfl rfl wz (h_op (vI v_16.1) wz rfl ?_)
  obtain ⟨r_32,hr_33,hF⟩:=bind_some hF
  refine h_call0 (law_momentFault_ok hr_33) rfl hb15 rfl rfl rfl rfl wz (h_lit (([r_28,r_30,r_32]:List Int).map eI) es72 ez72 rfl rfl rfl rfl rfl wz ?_)
  obtain ⟨r_34,hr_35,hF⟩:=bind_some hF
  refine h_call0 (law_errs_ok hr_35) rfl hb12 rfl rfl rfl rfl wz (h_op (vI r_34) wz rfl (h_nil (wH_at (H0:=([(n_2,some (.cells 2 [(vL eI v_16.2.1),(vI v_16.2.2)])),(n_12,some (.cells 4 [(vS r_6.1.Key),(vS r_6.1.Screen),(vI r_6.1.Zone),(vL eS r_6.1.Tags)]))]:Hp)) ([(4,(vL Entry.enc r_3.1)),(5,(.ref n_12 0 0)),(6,(vI v_16.1)),(7,(vS r_22.1)),(8,(vB r_22.2.1)),(9,(vI r_22.2.2)),(10,(vL eS r_24.1)),(11,(vI r_24.2)),(12,(vI r_26.1)),(13,(vI r_26.2)),(14,(vI r_34))]:List (Nat×V)) (by kernel_rfl) (pre_mk (by kernel_rfl)) (wH_seq (wH_seq (wH_region (h_op (vI r_34) wz rfl (h_op (vB (r_34 != 0)) wz rfl (h_nil ?_)))))))))
  rcases cond_some hF with⟨hc_36,hF⟩ | ⟨hc_36,hF⟩
  ·refine wH_ift rfl hc_36 (wH_seq ?_)
   obtain ⟨v_37,h_38,hF⟩:=bind_some hF
   refine wH_join (β:=Unit) (fun _=>([(2,(vB v_37))]:List (Nat×V))) (fun _=>([(n_2,some (.cells 2 [(vL eI v_16.2.1),(vI v_16.2.2)])),(n_12,some (.cells 4 [(vS r_6.1.Key),(vS r_6.1.Screen),(vI r_6.1.Zone),(vL eS r_6.1.Tags)]))]:Hp)) (fun _=>True) ?_ ?_
   ·refine wH_region (h_op (vI r_22.2.2) wz rfl (h_op (vI r_34) wz rfl (h_op (vB (r_22.2.2 == r_34)) wz rfl ?_)))
    rcases cond_some h_38 with⟨hc_39,h_38⟩ | ⟨hc_39,h_38⟩
    ·refine h_movb rfl hc_39 wz (h_op (vI r_24.2) wa rfl (h_op (vI r_34) wa rfl (h_op (vB (r_24.2 == r_34)) wa rfl (h_op (vB (r_24.2 == r_34)) wz rfl ?_))))
     rcases cond_some h_38 with⟨hc_40,h_38⟩ | ⟨hc_40,h_38⟩
     ·refine h_movb rfl hc_40 wz (h_op (vI r_26.2) wa rfl (h_op (vI r_34) wa rfl (h_op (vB (r_26.2 == r_34)) wa rfl (h_op (vB (r_26.2 == r_34)) wz rfl ?_))))
      rcases cond_some h_38 with⟨hc_41,h_38⟩ | ⟨hc_41,h_38⟩
      ·refine h_movb rfl hc_41 wz (h_op (vS r_22.1) wa rfl (h_op (vB (sEq r_22.1 (⟨#[]⟩:ByteArray))) wa rfl (h_op (vB (sEq r_22.1 (⟨#[]⟩:ByteArray))) wz rfl ?_)))
       rcases cond_some h_38 with⟨hc_42,h_38⟩ | ⟨hc_42,h_38⟩
       ·refine h_movb rfl hc_42 wz (h_op (vB r_22.2.1) wa rfl (h_op (vB (!r_22.2.1)) wa rfl (h_op (vB (!r_22.2.1)) wz rfl ?_)))
        rcases cond_some h_38 with⟨hc_43,h_38⟩ | ⟨hc_43,h_38⟩
        ·refine h_movb rfl hc_43 wz (h_op (vL eS r_24.1) wa rfl (h_len un28 rfl wa (h_op (vB ((r_24.1.length:Int) == 0)) wa rfl (h_op (vB ((r_24.1.length:Int) == 0)) wz rfl ?_))))
         rcases cond_some h_38 with⟨hc_44,h_38⟩ | ⟨hc_44,h_38⟩
         ·refine h_movb rfl hc_44 wz (h_op (vI r_26.1) wa rfl (h_op (vB (r_26.1 == 0)) wa rfl (h_op (vB (r_26.1 == 0)) wz rfl ?_)))
          rcases cond_some h_38 with⟨hc_45,h_38⟩ | ⟨hc_45,h_38⟩
          ·refine h_movb rfl hc_45 wz ?_
           obtain ⟨r_46,hr_47,h_38⟩:=bind_some h_38
           refine h_call0 (law_timed_ok hr_47) rfl hb16 rfl rfl rfl rfl wa (h_op (vB r_46) wz rfl (h_op (vB r_46) wz rfl (h_nil ?_)))
           obtain rfl:=some_inj h_38
           exact cu
          ·refine h_movb rfl hc_45 wz (h_skip wa (h_op (vB false) wz rfl (h_op (vB false) wz rfl (h_nil ?_))))
           obtain rfl:=some_inj h_38
           exact cu
         ·refine h_movb rfl hc_44 wz (h_skip wa (h_skip wa (h_op (vB false) wz rfl (h_op (vB false) wz rfl (h_skip wa (h_op (vB false) wz rfl (h_op (vB false) wz rfl (h_nil ?_))))))))
          obtain rfl:=some_inj h_38
          exact cu
        ·refine h_movb rfl hc_43 wz (h_skip wa (h_skip wa (h_skip wa (h_op (vB false) wz rfl (h_op (vB false) wz rfl (h_skip wa (h_skip wa (h_op (vB false) wz rfl (h_op (vB false) wz rfl (h_skip wa (h_op (vB false) wz rfl (h_op (vB false) wz rfl (h_nil ?_)))))))))))))
         obtain rfl:=some_inj h_38
         exact cu
       ·refine h_movb rfl hc_42 wz (h_skip wa (h_skip wa (h_op (vB false) wz rfl (h_op (vB false) wz rfl (h_skip wa (h_skip wa (h_skip wa (h_op (vB false) wz rfl (h_op (vB false) wz rfl (h_skip wa (h_skip wa (h_op (vB false) wz rfl (h_op (vB false) wz rfl (h_skip wa (h_op (vB false) wz rfl (h_op (vB false) wz rfl (h_nil ?_)))))))))))))))))
        obtain rfl:=some_inj h_38
        exact cu
      ·refine h_movb rfl hc_41 wz (h_skip wa (h_skip wa (h_op (vB false) wz rfl (h_op (vB false) wz rfl (h_skip wa (h_skip wa (h_op (vB false) wz rfl (h_op (vB false) wz rfl (h_skip wa (h_skip wa (h_skip wa (h_op (vB false) wz rfl (h_op (vB false) wz rfl (h_skip wa (h_skip wa (h_op (vB false) wz rfl (h_op (vB false) wz rfl (h_skip wa (h_op (vB false) wz rfl (h_op (vB false) wz rfl (h_nil ?_)))))))))))))))))))))
       obtain rfl:=some_inj h_38
       exact cu
     ·refine h_movb rfl hc_40 wz (h_skip wa (h_skip wa (h_skip wa (h_op (vB false) wz rfl (h_op (vB false) wz rfl (h_skip wa (h_skip wa (h_op (vB false) wz rfl (h_op (vB false) wz rfl (h_skip wa (h_skip wa (h_op (vB false) wz rfl (h_op (vB false) wz rfl (h_skip wa (h_skip wa (h_skip wa (h_op (vB false) wz rfl (h_op (vB false) wz rfl (h_skip wa (h_skip wa (h_op (vB false) wz rfl (h_op (vB false) wz rfl (h_skip wa ?_)))))))))))))))))))))))
      refine h_op (vB false) wz rfl (h_op (vB false) wz rfl (h_nil ?_))
      obtain rfl:=some_inj h_38
      exact cu
    ·refine h_movb rfl hc_39 wz (h_skip wa (h_skip wa (h_skip wa (h_op (vB false) wz rfl (h_op (vB false) wz rfl (h_skip wa (h_skip wa (h_skip wa (h_op (vB false) wz rfl (h_op (vB false) wz rfl (h_skip wa (h_skip wa (h_op (vB false) wz rfl (h_op (vB false) wz rfl (h_skip wa (h_skip wa (h_op (vB false) wz rfl (h_op (vB false) wz rfl (h_skip wa (h_skip wa (h_skip wa (h_op (vB false) wz rfl (h_op (vB false) wz rfl ?_)))))))))))))))))))))))
     refine h_skip wa (h_skip wa (h_op (vB false) wz rfl (h_op (vB false) wz rfl (h_skip wa (h_op (vB false) wz rfl (h_op (vB false) wz rfl (h_nil ?_)))))))
     obtain rfl:=some_inj h_38
     exact cu
   ·rintro ⟨⟩ _ sl_ H_ hp_ hq_
    refine wH_at _ hp_ hq_ ?_
    obtain rfl:=some_inj hF
    exact wH_ret (fin0 (.inr rfl) [(vB v_37)] ⟨rfl,trivial⟩ rfl rfl rfl)
  ·refine wH_iff rfl hc_36 (wH_skip (wH_seq (wH_region (h_op (vL Entry.enc r_3.1) wz rfl (h_ldr 0 1 il ft sz30 ag30 rfl rfl (.d (.agg (Player.enc r_6.1))) rfl wz (h_op (vI v_16.1) wz rfl ?_))))))
   obtain ⟨r_48,hr_49,hF⟩:=bind_some hF
   refine h_call0 (ref_OnOf_ok hr_49) rfl hb17 rfl rfl rfl rfl wz (h_op (.tup [(vS r_48.1),(vB r_48.2)]) wz rfl (h_op (vS r_48.1) wz rfl (h_op (vB r_48.2) wz rfl (h_op (vS r_48.1) wz rfl (h_op (vB r_48.2) wz rfl (h_nil (wH_seq ?_)))))))
   obtain ⟨v_50,h_51,hF⟩:=bind_some hF
   refine wH_join (β:=Unit) (fun _=>([(2,(vB v_50))]:List (Nat×V))) (fun _=>([(n_2,some (.cells 2 [(vL eI v_16.2.1),(vI v_16.2.2)])),(n_12,some (.cells 4 [(vS r_6.1.Key),(vS r_6.1.Screen),(vI r_6.1.Zone),(vL eS r_6.1.Tags)]))]:Hp)) (fun _=>True) ?_ ?_
   ·refine wH_region (h_op (vI r_22.2.2) wz rfl (h_op (vB (r_22.2.2 == 0)) wz rfl ?_))
    rcases cond_some h_51 with⟨hc_52,h_51⟩ | ⟨hc_52,h_51⟩
    ·refine h_movb rfl hc_52 wz (h_op (vI r_24.2) wa rfl (h_op (vB (r_24.2 == 0)) wa rfl (h_op (vB (r_24.2 == 0)) wz rfl ?_)))
     rcases cond_some h_51 with⟨hc_53,h_51⟩ | ⟨hc_53,h_51⟩
     ·refine h_movb rfl hc_53 wz (h_op (vI r_26.2) wa rfl (h_op (vB (r_26.2 == 0)) wa rfl (h_op (vB (r_26.2 == 0)) wz rfl ?_)))
      rcases cond_some h_51 with⟨hc_54,h_51⟩ | ⟨hc_54,h_51⟩
      ·refine h_movb rfl hc_54 wz (h_op (vS r_22.1) wa rfl (h_op (vS r_48.1) wa rfl (h_op (vB (sEq r_22.1 r_48.1)) wa rfl (h_op (vB (sEq r_22.1 r_48.1)) wz rfl ?_))))
       rcases cond_some h_51 with⟨hc_55,h_51⟩ | ⟨hc_55,h_51⟩
       ·refine h_movb rfl hc_55 wz (h_op (vB r_22.2.1) wa rfl (h_op (vB r_48.2) wa rfl (h_beql un4 rfl rfl wa (h_op (vB (r_22.2.1 == r_48.2)) wz rfl ?_))))
        rcases cond_some h_51 with⟨hc_56,h_51⟩ | ⟨hc_56,h_51⟩
        ·refine h_movb rfl hc_56 wz (h_op (vL eS r_24.1) wa rfl (h_op (vL Entry.enc r_3.1) wa rfl (h_ldr 0 1 il ft sz30 ag30 rfl rfl (.d (.agg (Player.enc r_6.1))) rfl wa (h_op (vI v_16.1) wa rfl ?_))))
         obtain ⟨r_57,hr_58,h_51⟩:=bind_some h_51
         refine h_call0 (ref_WhyKeys_ok hr_58) rfl hb19 rfl rfl rfl rfl wa ?_
         obtain ⟨r_59,hr_60,h_51⟩:=bind_some h_51
         refine h_call0 (slices_Equal_string_string_ok hr_60) rfl hb18 rfl rfl rfl rfl wa (h_op (vB r_59) wz rfl ?_)
         rcases cond_some h_51 with⟨hc_61,h_51⟩ | ⟨hc_61,h_51⟩
         ·refine h_movb rfl hc_61 wz (h_op (vI r_26.1) wa rfl (h_op (vL Entry.enc r_3.1) wa rfl (h_ldr 0 1 il ft sz30 ag30 rfl rfl (.d (.agg (Player.enc r_6.1))) rfl wa (h_op (vI v_16.1) wa rfl ?_))))
          obtain ⟨r_62,hr_63,h_51⟩:=bind_some h_51
          refine h_call0 (ref_NextOf_ok hr_63) rfl hb20 rfl rfl rfl rfl wa (h_op (vB (r_26.1 == r_62)) wa rfl (h_op (vB (r_26.1 == r_62)) wz rfl ?_))
          rcases cond_some h_51 with⟨hc_64,h_51⟩ | ⟨hc_64,h_51⟩
          ·refine h_movb rfl hc_64 wz ?_
           obtain ⟨r_65,hr_66,h_51⟩:=bind_some h_51
           refine h_call0 (law_timed_ok hr_66) rfl hb16 rfl rfl rfl rfl wa (h_op (vB r_65) wz rfl (h_op (vB r_65) wz rfl (h_nil ?_)))
           obtain rfl:=some_inj h_51
           exact cu
          ·refine h_movb rfl hc_64 wz (h_skip wa (h_op (vB false) wz rfl (h_op (vB false) wz rfl (h_nil ?_))))
           obtain rfl:=some_inj h_51
           exact cu
         ·refine h_movb rfl hc_61 wz (h_skip wa (h_skip wa (h_skip wa (h_skip wa (h_skip wa (h_skip wa (h_op (vB false) wz rfl (h_op (vB false) wz rfl (h_skip wa (h_op (vB false) wz rfl (h_op (vB false) wz rfl (h_nil ?_))))))))))))
          obtain rfl:=some_inj h_51
          exact cu
        ·refine h_movb rfl hc_56 wz (h_skip wa (h_skip wa (h_skip wa (h_skip wa (h_skip wa (h_skip wa (h_op (vB false) wz rfl (h_op (vB false) wz rfl (h_skip wa (h_skip wa (h_skip wa (h_skip wa (h_skip wa (h_skip wa (h_op (vB false) wz rfl (h_op (vB false) wz rfl (h_skip wa (h_op (vB false) wz rfl (h_op (vB false) wz rfl (h_nil ?_))))))))))))))))))))
         obtain rfl:=some_inj h_51
         exact cu
       ·refine h_movb rfl hc_55 wz (h_skip wa (h_skip wa (h_skip wa (h_op (vB false) wz rfl (h_op (vB false) wz rfl (h_skip wa (h_skip wa (h_skip wa (h_skip wa (h_skip wa (h_skip wa (h_op (vB false) wz rfl (h_op (vB false) wz rfl (h_skip wa (h_skip wa (h_skip wa (h_skip wa (h_skip wa (h_skip wa (h_op (vB false) wz rfl (h_op (vB false) wz rfl (h_skip wa (h_op (vB false) wz rfl ?_)))))))))))))))))))))))
        refine h_op (vB false) wz rfl (h_nil ?_)
        obtain rfl:=some_inj h_51
        exact cu
      ·refine h_movb rfl hc_54 wz (h_skip wa (h_skip wa (h_skip wa (h_op (vB false) wz rfl (h_op (vB false) wz rfl (h_skip wa (h_skip wa (h_skip wa (h_op (vB false) wz rfl (h_op (vB false) wz rfl (h_skip wa (h_skip wa (h_skip wa (h_skip wa (h_skip wa (h_skip wa (h_op (vB false) wz rfl (h_op (vB false) wz rfl (h_skip wa (h_skip wa (h_skip wa (h_skip wa (h_skip wa ?_)))))))))))))))))))))))
       refine h_skip wa (h_op (vB false) wz rfl (h_op (vB false) wz rfl (h_skip wa (h_op (vB false) wz rfl (h_op (vB false) wz rfl (h_nil ?_))))))
       obtain rfl:=some_inj h_51
       exact cu
     ·refine h_movb rfl hc_53 wz (h_skip wa (h_skip wa (h_op (vB false) wz rfl (h_op (vB false) wz rfl (h_skip wa (h_skip wa (h_skip wa (h_op (vB false) wz rfl (h_op (vB false) wz rfl (h_skip wa (h_skip wa (h_skip wa (h_op (vB false) wz rfl (h_op (vB false) wz rfl (h_skip wa (h_skip wa (h_skip wa (h_skip wa (h_skip wa (h_skip wa (h_op (vB false) wz rfl (h_op (vB false) wz rfl (h_skip wa ?_)))))))))))))))))))))))
      refine h_skip wa (h_skip wa (h_skip wa (h_skip wa (h_skip wa (h_op (vB false) wz rfl (h_op (vB false) wz rfl (h_skip wa (h_op (vB false) wz rfl (h_op (vB false) wz rfl (h_nil ?_))))))))))
      obtain rfl:=some_inj h_51
      exact cu
    ·refine h_movb rfl hc_52 wz (h_skip wa (h_skip wa (h_op (vB false) wz rfl (h_op (vB false) wz rfl (h_skip wa (h_skip wa (h_op (vB false) wz rfl (h_op (vB false) wz rfl (h_skip wa (h_skip wa (h_skip wa (h_op (vB false) wz rfl (h_op (vB false) wz rfl (h_skip wa (h_skip wa (h_skip wa (h_op (vB false) wz rfl (h_op (vB false) wz rfl (h_skip wa (h_skip wa (h_skip wa (h_skip wa (h_skip wa ?_)))))))))))))))))))))))
     refine h_skip wa (h_op (vB false) wz rfl (h_op (vB false) wz rfl (h_skip wa (h_skip wa (h_skip wa (h_skip wa (h_skip wa (h_skip wa (h_op (vB false) wz rfl (h_op (vB false) wz rfl (h_skip wa (h_op (vB false) wz rfl (h_op (vB false) wz rfl (h_nil ?_))))))))))))))
     obtain rfl:=some_inj h_51
     exact cu
   ·rintro ⟨⟩ _ sl_ H_ hp_ hq_
    refine wH_at _ hp_ hq_ ?_
    obtain rfl:=some_inj hF
    exact wH_ret (fin0 (.inr rfl) [(vB v_50)] ⟨rfl,trivial⟩ rfl rfl rfl)
end Go.Proofs.YtjhcehhmdmbleaaGreat.Law

