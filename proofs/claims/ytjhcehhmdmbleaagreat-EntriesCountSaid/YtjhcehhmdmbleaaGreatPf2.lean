/-
 The machine computes these plain functions (written by a program of ours).
-/
import Derived.Test.YtjhcehhmdmbleaaGreatFacts
import Derived.Test.YtjhcehhmdmbleaaGreatDefs
import Derived.Test.YtjhcehhmdmbleaaGreatPf1
open Go Go.Eng Go.Proofs
namespace Go.Proofs.YtjhcehhmdmbleaaGreat.Law
set_option maxRecDepth 100000
set_option linter.unusedVariables false
set_option maxHeartbeats 1000000
theorem mk_Stream_Player_ok {s_1:Stream} {r:Player×Stream} (hF:mk_Stream_Player s_1=some r) :
  FnM Tryz.prog 5 [(.ref (extN 0) 0 0)] [(.cells 2 [(vL eI s_1.L),(vI s_1.f_at)])] (.d (.agg (Player.enc r.1))) [some (.cells 2 [(vL eI r.2.L),(vI r.2.f_at)])]:=by
 refine FnM.of_wH ⟨Tryz.prog,25,[],[]⟩ rfl Tryz.func5 rfl rfl (Nat.le_of_ble_eq_true rfl) (by kernel_rfl) ?_
 unfold mk_Stream_Player at hF
 refine wH_seq (wH_region (h_alloc 0 (.inl rfl) z30 rfl wz (fun n_2=>h_nil (wH_seq (wH_region (h_op (.ref (extN 0) 0 0) wz rfl ?_))))))
 obtain ⟨r_3,hr_4,hF⟩:=bind_some hF
 refine h_callq 0 [0] il ft (mk_Stream_RightPlayer_ok hr_4) rfl hb26 rfl (by kernel_rfl) (by kernel_rfl) (by kernel_rfl) (by kernel_rfl) (by kernel_rfl) (by kernel_rfl) (by kernel_rfl) (by decide) (by kernel_rfl) wz (.d (.agg (Player.enc r_3.1))) (by kernel_rfl) ([((extN 0),some (.cells 2 [(vL eI r_3.2.L),(vI r_3.2.f_at)])),(n_2,some (.cells 4 [(vS (⟨#[]⟩:ByteArray)),(vS (⟨#[]⟩:ByteArray)),(vI 0),.nil]))]:Hp) (by kernel_rfl) (h_alloc 0 (.inl rfl) z30 rfl wz (fun n_6=>h_str 0 il ft 2 sz30 rfl rfl [(vS r_3.1.Key),(vS r_3.1.Screen),(vI r_3.1.Zone),(vL eS r_3.1.Tags)] rfl wz (h_nil (wH_seq (wH_seq (wH_region (h_op (.ref (extN 0) 0 0) wz rfl ?_)))))))
 obtain ⟨r_7,hr_8,hF⟩:=bind_some hF
 refine h_callq 0 [0] il ft (mk_Stream_Flip_ok hr_8) rfl hb7 rfl (by kernel_rfl) (by kernel_rfl) (by kernel_rfl) (by kernel_rfl) (by kernel_rfl) (by kernel_rfl) (by kernel_rfl) (by decide) (by kernel_rfl) wz (vB r_7.1) (by kernel_rfl) ([((extN 0),some (.cells 2 [(vL eI r_7.2.L),(vI r_7.2.f_at)])),(n_2,some (.cells 4 [(vS (⟨#[]⟩:ByteArray)),(vS (⟨#[]⟩:ByteArray)),(vI 0),.nil])),(n_6,some (.cells 4 [(vS r_3.1.Key),(vS r_3.1.Screen),(vI r_3.1.Zone),(vL eS r_3.1.Tags)]))]:Hp) (by kernel_rfl) (h_nil ?_)
 obtain ⟨v_10,h_11,hF⟩:=bind_some hF
 refine wH_join (β:=Unit) (fun _=>([(2,(.ref n_2 0 0)),(3,(.ref n_6 0 0))]:List (Nat×V))) (fun _=>([((extN 0),some (.cells 2 [(vL eI v_10.1),(vI v_10.2.1)])),(n_2,some (.cells 4 [(vS (⟨#[]⟩:ByteArray)),(vS (⟨#[]⟩:ByteArray)),(vI 0),.nil])),(n_6,some (.cells 4 [(vS v_10.2.2.1),(vS v_10.2.2.2.1),(vI v_10.2.2.2.2.1),(vL eS v_10.2.2.2.2.2)]))]:Hp)) (fun _=>True) ?_ ?_
 ·rcases cond_some h_11 with⟨hc_12,h_11⟩ | ⟨hc_12,h_11⟩
  ·refine wH_ift rfl hc_12 (wH_region (h_op (.ref (extN 0) 0 0) wz rfl (h_lit (([(⟨#[112]⟩:ByteArray),(⟨#[]⟩:ByteArray)]:List ByteArray).map eS) es28 ez28 rfl rfl rfl rfl rfl wz ?_)))
   obtain ⟨r_13,hr_14,h_11⟩:=bind_some h_11
   refine h_callq 0 [0] il ft (mk_Stream_Some_ok hr_14) rfl hb23 rfl (by kernel_rfl) (by kernel_rfl) (by kernel_rfl) (by kernel_rfl) (by kernel_rfl) (by kernel_rfl) (by kernel_rfl) (by decide) (by kernel_rfl) wz (vS r_13.1) (by kernel_rfl) ([((extN 0),some (.cells 2 [(vL eI r_13.2.L),(vI r_13.2.f_at)])),(n_2,some (.cells 4 [(vS (⟨#[]⟩:ByteArray)),(vS (⟨#[]⟩:ByteArray)),(vI 0),.nil])),(n_6,some (.cells 4 [(vS r_3.1.Key),(vS r_3.1.Screen),(vI r_3.1.Zone),(vL eS r_3.1.Tags)]))]:Hp) (by kernel_rfl) (h_op (.ref (extN 0) 0 0) wz rfl (h_lit (([(⟨#[115,97]⟩:ByteArray),(⟨#[65]⟩:ByteArray)]:List ByteArray).map eS) es28 ez28 rfl rfl rfl rfl rfl wz ?_))
   obtain ⟨r_16,hr_17,h_11⟩:=bind_some h_11
   refine h_callq 0 [0] il ft (mk_Stream_Some_ok hr_17) rfl hb23 rfl (by kernel_rfl) (by kernel_rfl) (by kernel_rfl) (by kernel_rfl) (by kernel_rfl) (by kernel_rfl) (by kernel_rfl) (by decide) (by kernel_rfl) wz (vS r_16.1) (by kernel_rfl) ([((extN 0),some (.cells 2 [(vL eI r_16.2.L),(vI r_16.2.f_at)])),(n_2,some (.cells 4 [(vS (⟨#[]⟩:ByteArray)),(vS (⟨#[]⟩:ByteArray)),(vI 0),.nil])),(n_6,some (.cells 4 [(vS r_3.1.Key),(vS r_3.1.Screen),(vI r_3.1.Zone),(vL eS r_3.1.Tags)]))]:Hp) (by kernel_rfl) (h_op (.ref (extN 0) 0 0) wz rfl ?_)
   obtain ⟨r_19,hr_20,h_11⟩:=bind_some h_11
   refine h_callq 0 [0] il ft (mk_Stream_Odd_ok hr_20) rfl hb24 rfl (by kernel_rfl) (by kernel_rfl) (by kernel_rfl) (by kernel_rfl) (by kernel_rfl) (by kernel_rfl) (by kernel_rfl) (by decide) (by kernel_rfl) wz (vI r_19.1) (by kernel_rfl) ([((extN 0),some (.cells 2 [(vL eI r_19.2.L),(vI r_19.2.f_at)])),(n_2,some (.cells 4 [(vS (⟨#[]⟩:ByteArray)),(vS (⟨#[]⟩:ByteArray)),(vI 0),.nil])),(n_6,some (.cells 4 [(vS r_3.1.Key),(vS r_3.1.Screen),(vI r_3.1.Zone),(vL eS r_3.1.Tags)]))]:Hp) (by kernel_rfl) (h_lit (([(⟨#[109,97,108,108]⟩:ByteArray),(⟨#[99,105,116,121]⟩:ByteArray)]:List ByteArray).map eS) es28 ez28 rfl rfl rfl rfl rfl wz (h_lit (([(⟨#[]⟩:ByteArray)]:List ByteArray).map eS) es28 ez28 rfl rfl rfl rfl rfl wz (h_lit (([([(⟨#[109,97,108,108]⟩:ByteArray),(⟨#[99,105,116,121]⟩:ByteArray)]:List ByteArray),([(⟨#[]⟩:ByteArray)]:List ByteArray),([]:List ByteArray)]:List (List ByteArray)).map (eL eS)) es60 ez60 rfl rfl rfl rfl rfl wz (h_op (.ref (extN 0) 0 0) wz rfl ?_))))
   obtain ⟨r_22,hr_23,h_11⟩:=bind_some h_11
   refine h_callq 0 [0] il ft (mk_Stream_Next_ok hr_23) rfl hb22 rfl (by kernel_rfl) (by kernel_rfl) (by kernel_rfl) (by kernel_rfl) (by kernel_rfl) (by kernel_rfl) (by kernel_rfl) (by decide) (by kernel_rfl) wz (vI r_22.1) (by kernel_rfl) ([((extN 0),some (.cells 2 [(vL eI r_22.2.L),(vI r_22.2.f_at)])),(n_2,some (.cells 4 [(vS (⟨#[]⟩:ByteArray)),(vS (⟨#[]⟩:ByteArray)),(vI 0),.nil])),(n_6,some (.cells 4 [(vS r_3.1.Key),(vS r_3.1.Screen),(vI r_3.1.Zone),(vL eS r_3.1.Tags)]))]:Hp) (by kernel_rfl) ?_
   obtain ⟨y_25,hy_26,h_11⟩:=bind_some h_11
   refine h_ia es60 rfl rfl hy_26 rfl wz (h_ldc sz28 ag28 rfl (vL eS y_25) rfl wz (h_op (.d (.agg (Player.enc (⟨r_13.1,r_16.1,r_19.1,y_25⟩:Player)))) wz (by kernel_rfl) (h_str 0 il ft 2 sz30 rfl rfl [(vS r_13.1),(vS r_16.1),(vI r_19.1),(vL eS y_25)] rfl wz (h_nil ?_))))
   obtain rfl:=some_inj h_11
   exact cu
  ·refine wH_iff rfl hc_12 (wH_skip ?_)
   obtain rfl:=some_inj h_11
   exact cu
 ·rintro ⟨⟩ _ sl_ H_ hp_ hq_
  refine wH_at _ hp_ hq_ (wH_seq (wH_region (h_ldr 0 2 il ft sz30 ag30 rfl rfl (.d (.agg (Player.enc (⟨v_10.2.2.1,v_10.2.2.2.1,v_10.2.2.2.2.1,v_10.2.2.2.2.2⟩:Player)))) rfl wz (h_str 0 il ft 1 sz30 rfl rfl [(vS v_10.2.2.1),(vS v_10.2.2.2.1),(vI v_10.2.2.2.2.1),(vL eS v_10.2.2.2.2.2)] rfl wz (h_nil ?_)))))
  obtain rfl:=some_inj hF
  exact wH_ret (finB (.inr rfl) [(.d (.agg (Player.enc (⟨v_10.2.2.1,v_10.2.2.2.1,v_10.2.2.2.2.1,v_10.2.2.2.2.2⟩:Player))))] _ [0] [extN 0] ⟨⟨1,_,_,_,_,_,_,_,rfl,rfl,sz30,ag30,rfl⟩,trivial⟩ (.cons (co_data rfl rfl) (.nil)) (by kernel_rfl) ⟨(by kernel_rfl),trivial⟩ (by decide) (by kernel_rfl))
theorem mk_Stream_Moment_ok {s_1:Stream} {r:Int×Stream} (hF:mk_Stream_Moment s_1=some r) :
  FnM Tryz.prog 6 [(.ref (extN 0) 0 0)] [(.cells 2 [(vL eI s_1.L),(vI s_1.f_at)])] (vI r.1) [some (.cells 2 [(vL eI r.2.L),(vI r.2.f_at)])]:=by
 refine FnM.of_wH ⟨Tryz.prog,16,[],[]⟩ rfl Tryz.func6 rfl rfl (Nat.le_of_ble_eq_true rfl) (by kernel_rfl) ?_
 unfold mk_Stream_Moment at hF
 refine wH_seq (wH_region (h_op (vI 0) wz rfl (h_nil (wH_seq (wH_region (h_op (.ref (extN 0) 0 0) wz rfl (h_lit (([0,0,1,2,3,5,8]:List Int).map eI) es22 ez22 rfl rfl rfl rfl rfl wz ?_)))))))
 obtain ⟨r_2,hr_3,hF⟩:=bind_some hF
 refine h_callq 0 [0] il ft (mk_Stream_Pick_ok hr_3) rfl hb8 rfl (by kernel_rfl) (by kernel_rfl) (by kernel_rfl) (by kernel_rfl) (by kernel_rfl) (by kernel_rfl) (by kernel_rfl) (by decide) (by kernel_rfl) wz (vI r_2.1) (by kernel_rfl) ([((extN 0),some (.cells 2 [(vL eI r_2.2.L),(vI r_2.2.f_at)]))]:Hp) (by kernel_rfl) (h_op (vI (w64 (r_2.1 * 86400000))) wz rfl (h_op (.ref (extN 0) 0 0) wz rfl (h_lit (([0,60,120,600,720,1380,1439]:List Int).map eI) es22 ez22 rfl rfl rfl rfl rfl wz ?_)))
 obtain ⟨r_5,hr_6,hF⟩:=bind_some hF
 refine h_callq 0 [0] il ft (mk_Stream_Pick_ok hr_6) rfl hb8 rfl (by kernel_rfl) (by kernel_rfl) (by kernel_rfl) (by kernel_rfl) (by kernel_rfl) (by kernel_rfl) (by kernel_rfl) (by decide) (by kernel_rfl) wz (vI r_5.1) (by kernel_rfl) ([((extN 0),some (.cells 2 [(vL eI r_5.2.L),(vI r_5.2.f_at)]))]:Hp) (by kernel_rfl) (h_op (vI (w64 (r_5.1 * 60000))) wz rfl (h_op (vI (w64 ((w64 (r_2.1 * 86400000)) + (w64 (r_5.1 * 60000))))) wz rfl (h_op (.ref (extN 0) 0 0) wz rfl (h_lit (([0,0,1,30000,(-1)]:List Int).map eI) es22 ez22 rfl rfl rfl rfl rfl wz ?_))))
 obtain ⟨r_8,hr_9,hF⟩:=bind_some hF
 refine h_callq 0 [0] il ft (mk_Stream_Pick_ok hr_9) rfl hb8 rfl (by kernel_rfl) (by kernel_rfl) (by kernel_rfl) (by kernel_rfl) (by kernel_rfl) (by kernel_rfl) (by kernel_rfl) (by decide) (by kernel_rfl) wz (vI r_8.1) (by kernel_rfl) ([((extN 0),some (.cells 2 [(vL eI r_8.2.L),(vI r_8.2.f_at)]))]:Hp) (by kernel_rfl) (h_op (vI (w64 ((w64 ((w64 (r_2.1 * 86400000)) + (w64 (r_5.1 * 60000)))) + r_8.1))) wz rfl (h_op (vI (w64 ((w64 ((w64 (r_2.1 * 86400000)) + (w64 (r_5.1 * 60000)))) + r_8.1))) wz rfl (h_nil ?_)))
 obtain rfl:=some_inj hF
 exact wH_ret (finB (.inr rfl) [(vI (w64 ((w64 ((w64 (r_2.1 * 86400000)) + (w64 (r_5.1 * 60000)))) + r_8.1)))] _ [0] [extN 0] ⟨rfl,trivial⟩ (.cons (co_data rfl rfl) (.nil)) (by kernel_rfl) ⟨(by kernel_rfl),trivial⟩ (by decide) (by kernel_rfl))
theorem kit_IsKey_ok {s_1:ByteArray} {r:Bool} (hF:kit_IsKey s_1=some r) :
  FnM Tryz.prog 69 [(vS s_1)] [] (vB r) []:=by
 refine FnM.of_wH ⟨Tryz.prog,48,[],[]⟩ rfl Tryz.func69 rfl rfl (Nat.le_of_ble_eq_true rfl) (by kernel_rfl) ?_
 unfold kit_IsKey at hF
 refine wH_seq (wH_region (h_op (vB false) wz rfl (h_nil (wH_seq (wH_seq (wH_region (h_op (vI 0) wz rfl (h_nil ?_))))))))
 obtain ⟨o_10,hj_11,hF⟩:=bind_some hF
 obtain ⟨nq_33,hj_11⟩:=loopO_iter hj_11
 refine wH_join (β:=(Int)) (fun (s_7:Int)=>([(0,(vS s_1))]:List (Nat×V))) (fun (s_7:Int)=>([]:Hp)) (fun p=>o_10 = .go p) ?_ ?_
 ·refine wH_block (wH_loop (β:=Nat×(Int)) (fun p=>(fun (k_2:Nat) (s_7:Int)=>([(0,(vS s_1)),(3,(vI s_7))]:List (Nat×V))) p.1 p.2) (fun p=>(fun (k_2:Nat) (s_7:Int)=>([]:Hp)) p.1 p.2) (fun p=>iterN (fun s=>kit_IsKey_L1 s_1 s) p.1 p.2=some o_10) (fun p=>p.1) (nq_33,0) hj_11 rfl (pre_r rfl) ?_)
  rintro ⟨k_2,s_7⟩ hL_9
  dsimp only at hL_9
  cases k_2 with
  | zero=>cases hL_9
  | succ k_2 =>
   obtain ⟨c_,hc_8,hL_9⟩:=bind_some hL_9
   unfold kit_IsKey_L1 at hc_8
   refine wH_seq (wH_seq (wH_region (h_op (vI s_7) wz rfl (h_op (vS s_1) wz rfl (h_lens un9 rfl wz (h_op (vB (decide (s_7 < (s_1.size:Int)))) wz rfl (h_nil ?_)))))))
   rcases cond_some hc_8 with⟨hc_12,hc_8⟩ | ⟨hc_12,hc_8⟩
   ·refine wH_ift rfl hc_12 (wH_skip (wH_seq (wH_block (wH_seq (wH_region (h_op (vS s_1) wz rfl (h_op (vI s_7) wz rfl ?_)))))))
    obtain ⟨b_13,hy_14,hc_8⟩:=bind_some hc_8
    refine h_idxs un9 rfl rfl hy_14 wz (h_op (.d (.int .u8 (b_13.toNat:Int))) wz rfl (h_nil (wH_seq ?_)))
    obtain ⟨v_15,h_16,hc_8⟩:=bind_some hc_8
    refine wH_join (β:=Unit) (fun _=>([(0,(vS s_1)),(3,(vI s_7)),(40,(vB v_15))]:List (Nat×V))) (fun _=>([]:Hp)) (fun _=>True) ?_ ?_
    ·refine wH_region (h_op (.d (.int .u8 (b_13.toNat:Int))) wz rfl (h_op (vB (decide ((b_13.toNat:Int)≥97))) wz rfl ?_))
     rcases cond_some h_16 with⟨hc_17,h_16⟩ | ⟨hc_17,h_16⟩
     ·refine h_movb rfl hc_17 wz (h_op (.d (.int .u8 (b_13.toNat:Int))) wa rfl (h_op (vB (decide ((b_13.toNat:Int)≤122))) wa rfl (h_op (vB (decide ((b_13.toNat:Int)≤122))) wz rfl ?_)))
      rcases cond_some h_16 with⟨hc_18,h_16⟩ | ⟨hc_18,h_16⟩
      ·refine h_movb rfl hc_18 wz (h_skip wa (h_skip wa (h_skip wa (h_skip (wn rfl rfl) (h_skip (wn rfl rfl) (h_skip (wn rfl rfl) (h_skip (wn rfl rfl) (h_skip (wn rfl rfl) (h_skip (wn rfl rfl) (h_skip (wn rfl rfl) (h_skip (wn rfl rfl) (h_skip (wn rfl rfl) (h_skip (wn rfl rfl) (h_skip (wn rfl rfl) (h_skip (wn rfl rfl) (h_skip (wn rfl rfl) (h_skip (wn rfl rfl) (h_skip wa (h_op (vB true) wz rfl (h_op (vB false) wz rfl (h_nil ?_)))))))))))))))))))))
       obtain rfl:=some_inj h_16
       exact cu
      ·refine h_movb rfl hc_18 wz (h_op (vI s_7) wa rfl (h_op (vB (decide (s_7 > 0))) wa rfl ?_))
       rcases cond_some h_16 with⟨hc_19,h_16⟩ | ⟨hc_19,h_16⟩
       ·refine h_movb rfl hc_19 wa (h_op (.d (.int .u8 (b_13.toNat:Int))) wa rfl (h_op (vB (decide ((b_13.toNat:Int)≥48))) wa rfl ?_))
        rcases cond_some h_16 with⟨hc_20,h_16⟩ | ⟨hc_20,h_16⟩
        ·refine h_movb rfl hc_20 wa (h_op (.d (.int .u8 (b_13.toNat:Int))) wa rfl (h_op (vB (decide ((b_13.toNat:Int)≤57))) wa rfl (h_op (vB (decide ((b_13.toNat:Int)≤57))) wa rfl ?_)))
         rcases cond_some h_16 with⟨hc_21,h_16⟩ | ⟨hc_21,h_16⟩
         ·refine h_movb rfl hc_21 wa (h_skip wa (h_skip wa (h_op (vB true) wa rfl (h_op (vB true) wa rfl (h_skip wa (h_skip wa (h_op (vB true) wa rfl (h_op (vB true) wa rfl (h_op (vB true) wz rfl (h_op (vB false) wz rfl (h_nil ?_)))))))))))
          obtain rfl:=some_inj h_16
          exact cu
         ·refine h_movb rfl hc_21 wa (h_op (.d (.int .u8 (b_13.toNat:Int))) wa rfl (h_op (vB ((b_13.toNat:Int) == 45)) wa rfl (h_op (vB ((b_13.toNat:Int) == 45)) wa rfl ?_)))
          rcases cond_some h_16 with⟨hc_22,h_16⟩ | ⟨hc_22,h_16⟩
          ·refine h_movb rfl hc_22 wa (h_skip wa (h_skip wa (h_op (vB true) wa rfl (h_op (vB true) wa rfl (h_op (vB true) wz rfl (h_op (vB false) wz rfl (h_nil ?_)))))))
           obtain rfl:=some_inj h_16
           exact cu
          ·refine h_movb rfl hc_22 wa (h_op (.d (.int .u8 (b_13.toNat:Int))) wa rfl (h_op (vB ((b_13.toNat:Int) == 95)) wa rfl (h_op (vB ((b_13.toNat:Int) == 95)) wa rfl (h_op (vB ((b_13.toNat:Int) == 95)) wa rfl (h_op (vB ((b_13.toNat:Int) == 95)) wz rfl (h_op (vB (!((b_13.toNat:Int) == 95))) wz rfl (h_nil ?_)))))))
           obtain rfl:=some_inj h_16
           exact cu
        ·refine h_movb rfl hc_20 wa (h_skip wa (h_skip wa (h_op (vB false) wa rfl (h_op (vB false) wa rfl (h_op (.d (.int .u8 (b_13.toNat:Int))) wa rfl (h_op (vB ((b_13.toNat:Int) == 45)) wa rfl (h_op (vB ((b_13.toNat:Int) == 45)) wa rfl ?_)))))))
         rcases cond_some h_16 with⟨hc_23,h_16⟩ | ⟨hc_23,h_16⟩
         ·refine h_movb rfl hc_23 wa (h_skip wa (h_skip wa (h_op (vB true) wa rfl (h_op (vB true) wa rfl (h_op (vB true) wz rfl (h_op (vB false) wz rfl (h_nil ?_)))))))
          obtain rfl:=some_inj h_16
          exact cu
         ·refine h_movb rfl hc_23 wa (h_op (.d (.int .u8 (b_13.toNat:Int))) wa rfl (h_op (vB ((b_13.toNat:Int) == 95)) wa rfl (h_op (vB ((b_13.toNat:Int) == 95)) wa rfl (h_op (vB ((b_13.toNat:Int) == 95)) wa rfl (h_op (vB ((b_13.toNat:Int) == 95)) wz rfl (h_op (vB (!((b_13.toNat:Int) == 95))) wz rfl (h_nil ?_)))))))
          obtain rfl:=some_inj h_16
          exact cu
       ·refine h_movb rfl hc_19 wa (h_skip wa (h_skip wa (h_skip wa (h_skip (wn rfl rfl) (h_skip (wn rfl rfl) (h_skip wa (h_skip wa (h_skip (wn rfl rfl) (h_skip (wn rfl rfl) (h_skip wa (h_skip wa (h_skip (wn rfl rfl) (h_skip (wn rfl rfl) (h_skip wa (h_op (vB false) wa rfl (h_op (vB false) wz rfl (h_op (vB true) wz rfl (h_nil ?_))))))))))))))))))
        obtain rfl:=some_inj h_16
        exact cu
     ·refine h_movb rfl hc_17 wz (h_skip wa (h_skip wa (h_op (vB false) wz rfl (h_op (vB false) wz rfl (h_op (vI s_7) wa rfl (h_op (vB (decide (s_7 > 0))) wa rfl ?_))))))
      rcases cond_some h_16 with⟨hc_24,h_16⟩ | ⟨hc_24,h_16⟩
      ·refine h_movb rfl hc_24 wa (h_op (.d (.int .u8 (b_13.toNat:Int))) wa rfl (h_op (vB (decide ((b_13.toNat:Int)≥48))) wa rfl ?_))
       rcases cond_some h_16 with⟨hc_25,h_16⟩ | ⟨hc_25,h_16⟩
       ·refine h_movb rfl hc_25 wa (h_op (.d (.int .u8 (b_13.toNat:Int))) wa rfl (h_op (vB (decide ((b_13.toNat:Int)≤57))) wa rfl (h_op (vB (decide ((b_13.toNat:Int)≤57))) wa rfl ?_)))
        rcases cond_some h_16 with⟨hc_26,h_16⟩ | ⟨hc_26,h_16⟩
        ·refine h_movb rfl hc_26 wa (h_skip wa (h_skip wa (h_op (vB true) wa rfl (h_op (vB true) wa rfl (h_skip wa (h_skip wa (h_op (vB true) wa rfl (h_op (vB true) wa rfl (h_op (vB true) wz rfl (h_op (vB false) wz rfl (h_nil ?_)))))))))))
         obtain rfl:=some_inj h_16
         exact cu
        ·refine h_movb rfl hc_26 wa (h_op (.d (.int .u8 (b_13.toNat:Int))) wa rfl (h_op (vB ((b_13.toNat:Int) == 45)) wa rfl (h_op (vB ((b_13.toNat:Int) == 45)) wa rfl ?_)))
         rcases cond_some h_16 with⟨hc_27,h_16⟩ | ⟨hc_27,h_16⟩
         ·refine h_movb rfl hc_27 wa (h_skip wa (h_skip wa (h_op (vB true) wa rfl (h_op (vB true) wa rfl (h_op (vB true) wz rfl (h_op (vB false) wz rfl (h_nil ?_)))))))
          obtain rfl:=some_inj h_16
          exact cu
         ·refine h_movb rfl hc_27 wa (h_op (.d (.int .u8 (b_13.toNat:Int))) wa rfl (h_op (vB ((b_13.toNat:Int) == 95)) wa rfl (h_op (vB ((b_13.toNat:Int) == 95)) wa rfl (h_op (vB ((b_13.toNat:Int) == 95)) wa rfl (h_op (vB ((b_13.toNat:Int) == 95)) wz rfl (h_op (vB (!((b_13.toNat:Int) == 95))) wz rfl (h_nil ?_)))))))
          obtain rfl:=some_inj h_16
          exact cu
       ·refine h_movb rfl hc_25 wa (h_skip wa (h_skip wa (h_op (vB false) wa rfl (h_op (vB false) wa rfl (h_op (.d (.int .u8 (b_13.toNat:Int))) wa rfl (h_op (vB ((b_13.toNat:Int) == 45)) wa rfl (h_op (vB ((b_13.toNat:Int) == 45)) wa rfl ?_)))))))
        rcases cond_some h_16 with⟨hc_28,h_16⟩ | ⟨hc_28,h_16⟩
        ·refine h_movb rfl hc_28 wa (h_skip wa (h_skip wa (h_op (vB true) wa rfl (h_op (vB true) wa rfl (h_op (vB true) wz rfl (h_op (vB false) wz rfl (h_nil ?_)))))))
         obtain rfl:=some_inj h_16
         exact cu
        ·refine h_movb rfl hc_28 wa (h_op (.d (.int .u8 (b_13.toNat:Int))) wa rfl (h_op (vB ((b_13.toNat:Int) == 95)) wa rfl (h_op (vB ((b_13.toNat:Int) == 95)) wa rfl (h_op (vB ((b_13.toNat:Int) == 95)) wa rfl (h_op (vB ((b_13.toNat:Int) == 95)) wz rfl (h_op (vB (!((b_13.toNat:Int) == 95))) wz rfl (h_nil ?_)))))))
         obtain rfl:=some_inj h_16
         exact cu
      ·refine h_movb rfl hc_24 wa (h_skip wa (h_skip wa (h_skip wa (h_skip (wn rfl rfl) (h_skip (wn rfl rfl) (h_skip wa (h_skip wa (h_skip (wn rfl rfl) (h_skip (wn rfl rfl) (h_skip wa (h_skip wa (h_skip (wn rfl rfl) (h_skip (wn rfl rfl) (h_skip wa (h_op (vB false) wa rfl (h_op (vB false) wz rfl (h_op (vB true) wz rfl (h_nil ?_))))))))))))))))))
       obtain rfl:=some_inj h_16
       exact cu
    ·rintro ⟨⟩ _ sl_ H_ hp_ hq_
     refine wH_at _ hp_ hq_ ?_
     rcases cond_some hc_8 with⟨hc_29,hc_8⟩ | ⟨hc_29,hc_8⟩
     ·refine wH_ift rfl hc_29 (wH_seq (wH_region (h_op (vB false) wz rfl (h_nil ?_))))
      obtain rfl:=some_inj hc_8
      obtain rfl:=some_inj hL_9
      obtain rfl:=some_inj hF
      exact wH_ret (fin0 (.inr rfl) [(vB false)] ⟨rfl,trivial⟩ rfl rfl rfl)
     ·refine wH_iff rfl hc_29 (wH_skip (wH_region (h_op (vI s_7) wz rfl (h_op (vI (w64 (s_7 + 1))) wz rfl (h_op (vI (w64 (s_7 + 1))) wz rfl (h_nil ?_))))))
      obtain rfl:=some_inj hc_8
      exact loop_mk (k_2,(w64 (s_7 + 1))) hL_9 (Nat.lt_succ_self _) rfl (pre_r rfl)
   ·refine wH_iff rfl hc_12 (wH_exit ?_)
    obtain rfl:=some_inj hc_8
    obtain rfl:=some_inj hL_9
    exact cut_mk (s_7) rfl rfl (pre_r rfl)
 ·rintro s_7 ho_ sl_ H_ hp_ hq_
  subst ho_
  refine wH_at _ hp_ hq_ (wH_seq ?_)
  obtain ⟨v_30,h_31,hF⟩:=bind_some hF
  refine wH_join (β:=Unit) (fun _=>([(2,(vB v_30))]:List (Nat×V))) (fun _=>([]:Hp)) (fun _=>True) ?_ ?_
  ·refine wH_region (h_op (vS s_1) wz rfl (h_op (vB (sNe s_1 (⟨#[]⟩:ByteArray))) wz rfl ?_))
   rcases cond_some h_31 with⟨hc_32,h_31⟩ | ⟨hc_32,h_31⟩
   ·refine h_movb rfl hc_32 wz (h_op (vS s_1) wa rfl (h_lens un9 rfl wa (h_op (vB (decide ((s_1.size:Int)≤40))) wa rfl (h_op (vB (decide ((s_1.size:Int)≤40))) wz rfl (h_op (vB (decide ((s_1.size:Int)≤40))) wz rfl (h_nil ?_))))))
    obtain rfl:=some_inj h_31
    exact cu
   ·refine h_movb rfl hc_32 wz (h_skip wa (h_skip wa (h_skip wa (h_op (vB false) wz rfl (h_op (vB false) wz rfl (h_nil ?_))))))
    obtain rfl:=some_inj h_31
    exact cu
  ·rintro ⟨⟩ _ sl_ H_ hp_ hq_
   refine wH_at _ hp_ hq_ ?_
   obtain rfl:=some_inj hF
   exact wH_ret (fin0 (.inr rfl) [(vB v_30)] ⟨rfl,trivial⟩ rfl rfl rfl)
theorem kit_Outside_ok {n_1:Int} {low_2:Int} {high_3:Int} {r:Bool} (hF:kit_Outside n_1 low_2 high_3=some r) :
  FnM Tryz.prog 57 [(vI n_1),(vI low_2),(vI high_3)] [] (vB r) []:=by
 refine FnM.of_wH ⟨Tryz.prog,15,[],[]⟩ rfl Tryz.func57 rfl rfl (Nat.le_of_ble_eq_true rfl) (by kernel_rfl) ?_
 unfold kit_Outside at hF
 refine wH_seq (wH_region (h_op (vB false) wz rfl (h_nil (wH_seq ?_))))
 obtain ⟨v_4,h_5,hF⟩:=bind_some hF
 refine wH_join (β:=Unit) (fun _=>([(6,(vB v_4))]:List (Nat×V))) (fun _=>([]:Hp)) (fun _=>True) ?_ ?_
 ·refine wH_region (h_op (vI n_1) wz rfl (h_op (vI low_2) wz rfl (h_op (vB (decide (n_1 < low_2))) wz rfl ?_)))
  rcases cond_some h_5 with⟨hc_6,h_5⟩ | ⟨hc_6,h_5⟩
  ·refine h_movb rfl hc_6 wz (h_skip wa (h_skip wa (h_skip wa (h_op (vB true) wz rfl (h_op (vB true) wz rfl (h_nil ?_))))))
   obtain rfl:=some_inj h_5
   exact cu
  ·refine h_movb rfl hc_6 wz (h_op (vI n_1) wa rfl (h_op (vI high_3) wa rfl (h_op (vB (decide (n_1 > high_3))) wa rfl (h_op (vB (decide (n_1 > high_3))) wz rfl (h_op (vB (decide (n_1 > high_3))) wz rfl (h_nil ?_))))))
   obtain rfl:=some_inj h_5
   exact cu
 ·rintro ⟨⟩ _ sl_ H_ hp_ hq_
  refine wH_at _ hp_ hq_ ?_
  obtain rfl:=some_inj hF
  exact wH_ret (fin0 (.inr rfl) [(vB v_4)] ⟨rfl,trivial⟩ rfl rfl rfl)
theorem kit_IsDay_ok {n_1:Int} {r:Bool} (hF:kit_IsDay n_1=some r) :
  FnM Tryz.prog 119 [(vI n_1)] [] (vB r) []:=by
 refine FnM.of_wH ⟨Tryz.prog,9,[],[]⟩ rfl Tryz.func119 rfl rfl (Nat.le_of_ble_eq_true rfl) (by kernel_rfl) ?_
 unfold kit_IsDay at hF
 refine wH_seq (wH_region (h_op (vB false) wz rfl (h_nil (wH_seq ?_))))
 obtain ⟨v_2,h_3,hF⟩:=bind_some hF
 refine wH_join (β:=Unit) (fun _=>([(2,(vB v_2))]:List (Nat×V))) (fun _=>([]:Hp)) (fun _=>True) ?_ ?_
 ·refine wH_region (h_op (vI n_1) wz rfl (h_op (vB (decide (n_1≥0))) wz rfl ?_))
  rcases cond_some h_3 with⟨hc_4,h_3⟩ | ⟨hc_4,h_3⟩
  ·refine h_movb rfl hc_4 wz (h_op (vI n_1) wa rfl (h_op (vB (decide (n_1≤4000))) wa rfl (h_op (vB (decide (n_1≤4000))) wz rfl (h_op (vB (decide (n_1≤4000))) wz rfl (h_nil ?_)))))
   obtain rfl:=some_inj h_3
   exact cu
  ·refine h_movb rfl hc_4 wz (h_skip wa (h_skip wa (h_op (vB false) wz rfl (h_op (vB false) wz rfl (h_nil ?_)))))
   obtain rfl:=some_inj h_3
   exact cu
 ·rintro ⟨⟩ _ sl_ H_ hp_ hq_
  refine wH_at _ hp_ hq_ ?_
  obtain rfl:=some_inj hF
  exact wH_ret (fin0 (.inr rfl) [(vB v_2)] ⟨rfl,trivial⟩ rfl rfl rfl)
theorem schedule_exceptFault_ok {l_1:(List Int)} {r:Int} (hF:schedule_exceptFault l_1=some r) :
  FnM Tryz.prog 91 [(vL eI l_1)] [] (vI r) []:=by
 refine FnM.of_wH ⟨Tryz.prog,30,[],[]⟩ rfl Tryz.func91 rfl rfl (Nat.le_of_ble_eq_true rfl) (by kernel_rfl) ?_
 unfold schedule_exceptFault at hF
 refine wH_seq (wH_region (h_op (vI 0) wz rfl (h_nil (wH_seq (wH_seq (wH_region (h_op (vL eI l_1) wz rfl (h_len un22 rfl wz (h_op (vB (decide ((l_1.length:Int) > 100))) wz rfl (h_nil ?_))))))))))
 rcases cond_some hF with⟨hc_2,hF⟩ | ⟨hc_2,hF⟩
 ·refine wH_ift rfl hc_2 (wH_seq (wH_region (h_op (vI 2) wz rfl (h_nil ?_))))
  obtain rfl:=some_inj hF
  exact wH_ret (fin0 (.inr rfl) [(vI 2)] ⟨rfl,trivial⟩ rfl rfl rfl)
 ·refine wH_iff rfl hc_2 (wH_skip (wH_seq (wH_seq (wH_region (h_op (vL eI l_1) wz rfl (h_len un22 rfl wz (h_op (vI 0) wz rfl (h_nil ?_))))))))
  obtain ⟨o_11,hj_12,hF⟩:=bind_some hF
  obtain ⟨hn_7,hj_12⟩:=forL_some hj_12
  refine wH_join (β:=(Unit)) (fun (s_8:Unit)=>([]:List (Nat×V))) (fun (s_8:Unit)=>([]:Hp)) (fun p=>o_11 = .go p) ?_ ?_
  ·refine wH_block (wH_loop (β:=Nat×(List Int)×(Unit)) (fun p=>(fun (k_3:Nat) (l_4:List Int) (s_8:Unit)=>([(0,(vL eI l_1)),(8,(vL eI l_1)),(9,(vI (l_1.length:Int))),(10,(vI (k_3:Int)))]:List (Nat×V))) p.1 p.2.1 p.2.2) (fun p=>(fun (k_3:Nat) (l_4:List Int) (s_8:Unit)=>([]:Hp)) p.1 p.2.1 p.2.2) (fun p=>forR (fun k x s=>schedule_exceptFault_L1 l_1 k x s) p.2.1 p.1 p.2.2=some o_11∧(l_1).drop p.1=p.2.1) (fun p=>p.2.1.length) (0,l_1,()) ⟨hj_12,rfl⟩ rfl (pre_r rfl) ?_)
   rintro ⟨k_3,l_4,s_8⟩ ⟨hL_10,hD_6⟩
   dsimp only at hL_10 hD_6
   cases l_4 with
   | nil =>
    obtain rfl:=some_inj hL_10
    refine wH_seq (wH_region (h_op (vB (decide ((k_3:Int) < (l_1.length:Int)))) wz rfl (h_nil ?_)))
    refine wH_seq (wH_iff rfl (drop_nil hD_6) (wH_exit ?_))
    exact cut_mk (s_8) rfl rfl (pre_r rfl)
   | cons x_5 l_4 =>
    obtain ⟨c_,hc_9,hL_10⟩:=bind_some hL_10
    refine wH_seq (wH_region (h_op (vB (decide ((k_3:Int) < (l_1.length:Int)))) wz rfl (h_nil ?_)))
    refine wH_seq (wH_ift rfl (drop_cons hD_6) (wH_skip ?_))
    unfold schedule_exceptFault_L1 at hc_9
    refine wH_seq (wH_block (wH_seq (wH_region (h_op (vI (k_3:Int)) wz rfl (h_ia es22 rfl rfl (drop_idx hD_6) rfl wz (h_ldc sz3 ag3 rfl (vI x_5) rfl wz (h_op (vI (k_3:Int)) wz rfl (h_op (vI x_5) wz rfl (h_nil (wH_seq (wH_seq (wH_region (h_op (vI x_5) wz rfl ?_)))))))))))))
    obtain ⟨r_13,hr_14,hc_9⟩:=bind_some hc_9
    refine h_call0 (kit_IsDay_ok hr_14) rfl hb119 rfl rfl rfl rfl wz (h_op (vB (!r_13)) wz rfl (h_nil ?_))
    rcases cond_some hc_9 with⟨hc_15,hc_9⟩ | ⟨hc_15,hc_9⟩
    ·refine wH_ift rfl hc_15 (wH_seq (wH_region (h_op (vI 1) wz rfl (h_nil ?_))))
     obtain rfl:=some_inj hc_9
     obtain rfl:=some_inj hL_10
     obtain rfl:=some_inj hF
     exact wH_ret (fin0 (.inr rfl) [(vI 1)] ⟨rfl,trivial⟩ rfl rfl rfl)
    ·refine wH_iff rfl hc_15 (wH_skip (wH_seq ?_))
     obtain ⟨v_16,h_17,hc_9⟩:=bind_some hc_9
     refine wH_join (β:=Unit) (fun _=>([(0,(vL eI l_1)),(8,(vL eI l_1)),(9,(vI (l_1.length:Int))),(10,(vI (k_3:Int))),(28,(vB v_16))]:List (Nat×V))) (fun _=>([]:Hp)) (fun _=>True) ?_ ?_
     ·refine wH_region (h_op (vI (k_3:Int)) wz rfl (h_op (vB (decide ((k_3:Int) > 0))) wz rfl ?_))
      rcases cond_some h_17 with⟨hc_18,h_17⟩ | ⟨hc_18,h_17⟩
      ·refine h_movb rfl hc_18 wz (h_op (vI x_5) wa rfl (h_op (vL eI l_1) wa rfl (h_op (vI (k_3:Int)) wa rfl (h_op (vI (w64 ((k_3:Int) - 1))) wa rfl ?_))))
       obtain ⟨y_19,hy_20,h_17⟩:=bind_some h_17
       refine h_ia es22 rfl rfl hy_20 rfl wa (h_ldc sz3 ag3 rfl (vI y_19) rfl wa (h_op (vB (decide (x_5≤y_19))) wa rfl (h_op (vB (decide (x_5≤y_19))) wz rfl (h_nil ?_))))
       obtain rfl:=some_inj h_17
       exact cu
      ·refine h_movb rfl hc_18 wz (h_skip wa (h_skip wa (h_skip wa (h_skip wa (h_skip wa (h_skip wa (h_skip wa (h_op (vB false) wz rfl (h_nil ?_)))))))))
       obtain rfl:=some_inj h_17
       exact cu
     ·rintro ⟨⟩ _ sl_ H_ hp_ hq_
      refine wH_at _ hp_ hq_ ?_
      rcases cond_some hc_9 with⟨hc_21,hc_9⟩ | ⟨hc_21,hc_9⟩
      ·refine wH_ift rfl hc_21 (wH_seq (wH_region (h_op (vI 7) wz rfl (h_nil ?_))))
       obtain rfl:=some_inj hc_9
       obtain rfl:=some_inj hL_10
       obtain rfl:=some_inj hF
       exact wH_ret (fin0 (.inr rfl) [(vI 7)] ⟨rfl,trivial⟩ rfl rfl rfl)
      ·refine wH_iff rfl hc_21 (wH_skip (wH_region (h_opw (w64_next hD_6 hn_7) wz rfl (h_op (vI ((k_3 + 1:Nat):Int)) wz rfl (h_nil ?_)))))
       obtain rfl:=some_inj hc_9
       exact loop_mk (k_3 + 1,l_4,()) ⟨hL_10,drop_next hD_6⟩ (Nat.lt_succ_self _) rfl (pre_r rfl)
  ·rintro s_8 ho_ sl_ H_ hp_ hq_
   subst ho_
   refine wH_at _ hp_ hq_ (wH_seq (wH_region (h_op (vI 0) wz rfl (h_nil ?_))))
   obtain rfl:=some_inj hF
   exact wH_ret (fin0 (.inr rfl) [(vI 0)] ⟨rfl,trivial⟩ rfl rfl rfl)
theorem kit_RisingFault_ok {l_1:(List ByteArray)} {r:Int} (hF:kit_RisingFault l_1=some r) :
  FnM Tryz.prog 92 [(vL eS l_1)] [] (vI r) []:=by
 refine FnM.of_wH ⟨Tryz.prog,27,[],[]⟩ rfl Tryz.func92 rfl rfl (Nat.le_of_ble_eq_true rfl) (by kernel_rfl) ?_
 unfold kit_RisingFault at hF
 refine wH_seq (wH_region (h_op (vI 0) wz rfl (h_nil (wH_seq (wH_seq (wH_region (h_op (vL eS l_1) wz rfl (h_len un28 rfl wz (h_op (vI 0) wz rfl (h_nil ?_))))))))))
 obtain ⟨o_10,hj_11,hF⟩:=bind_some hF
 obtain ⟨hn_6,hj_11⟩:=forL_some hj_11
 refine wH_join (β:=(Unit)) (fun (s_7:Unit)=>([]:List (Nat×V))) (fun (s_7:Unit)=>([]:Hp)) (fun p=>o_10 = .go p) ?_ ?_
 ·refine wH_block (wH_loop (β:=Nat×(List ByteArray)×(Unit)) (fun p=>(fun (k_2:Nat) (l_3:List ByteArray) (s_7:Unit)=>([(0,(vL eS l_1)),(5,(vL eS l_1)),(6,(vI (l_1.length:Int))),(7,(vI (k_2:Int)))]:List (Nat×V))) p.1 p.2.1 p.2.2) (fun p=>(fun (k_2:Nat) (l_3:List ByteArray) (s_7:Unit)=>([]:Hp)) p.1 p.2.1 p.2.2) (fun p=>forR (fun k x s=>kit_RisingFault_L1 l_1 k x s) p.2.1 p.1 p.2.2=some o_10∧(l_1).drop p.1=p.2.1) (fun p=>p.2.1.length) (0,l_1,()) ⟨hj_11,rfl⟩ rfl (pre_r rfl) ?_)
  rintro ⟨k_2,l_3,s_7⟩ ⟨hL_9,hD_5⟩
  dsimp only at hL_9 hD_5
  cases l_3 with
  | nil =>
   obtain rfl:=some_inj hL_9
   refine wH_seq (wH_region (h_op (vB (decide ((k_2:Int) < (l_1.length:Int)))) wz rfl (h_nil ?_)))
   refine wH_seq (wH_iff rfl (drop_nil hD_5) (wH_exit ?_))
   exact cut_mk (s_7) rfl rfl (pre_r rfl)
  | cons x_4 l_3 =>
   obtain ⟨c_,hc_8,hL_9⟩:=bind_some hL_9
   refine wH_seq (wH_region (h_op (vB (decide ((k_2:Int) < (l_1.length:Int)))) wz rfl (h_nil ?_)))
   refine wH_seq (wH_ift rfl (drop_cons hD_5) (wH_skip ?_))
   unfold kit_RisingFault_L1 at hc_8
   refine wH_seq (wH_block (wH_seq (wH_region (h_op (vI (k_2:Int)) wz rfl (h_ia es28 rfl rfl (drop_idx hD_5) rfl wz (h_ldc sz9 ag9 rfl (vS x_4) rfl wz (h_op (vI (k_2:Int)) wz rfl (h_op (vS x_4) wz rfl (h_nil (wH_seq (wH_seq (wH_region (h_op (vS x_4) wz rfl ?_)))))))))))))
   obtain ⟨r_12,hr_13,hc_8⟩:=bind_some hc_8
   refine h_call0 (kit_IsKey_ok hr_13) rfl hb69 rfl rfl rfl rfl wz (h_op (vB (!r_12)) wz rfl (h_nil ?_))
   rcases cond_some hc_8 with⟨hc_14,hc_8⟩ | ⟨hc_14,hc_8⟩
   ·refine wH_ift rfl hc_14 (wH_seq (wH_region (h_op (vI 5) wz rfl (h_nil ?_))))
    obtain rfl:=some_inj hc_8
    obtain rfl:=some_inj hL_9
    obtain rfl:=some_inj hF
    exact wH_ret (fin0 (.inr rfl) [(vI 5)] ⟨rfl,trivial⟩ rfl rfl rfl)
   ·refine wH_iff rfl hc_14 (wH_skip (wH_seq ?_))
    obtain ⟨v_15,h_16,hc_8⟩:=bind_some hc_8
    refine wH_join (β:=Unit) (fun _=>([(0,(vL eS l_1)),(5,(vL eS l_1)),(6,(vI (l_1.length:Int))),(7,(vI (k_2:Int))),(25,(vB v_15))]:List (Nat×V))) (fun _=>([]:Hp)) (fun _=>True) ?_ ?_
    ·refine wH_region (h_op (vI (k_2:Int)) wz rfl (h_op (vB (decide ((k_2:Int) > 0))) wz rfl ?_))
     rcases cond_some h_16 with⟨hc_17,h_16⟩ | ⟨hc_17,h_16⟩
     ·refine h_movb rfl hc_17 wz (h_op (vS x_4) wa rfl (h_op (vL eS l_1) wa rfl (h_op (vI (k_2:Int)) wa rfl (h_op (vI (w64 ((k_2:Int) - 1))) wa rfl ?_))))
      obtain ⟨y_18,hy_19,h_16⟩:=bind_some h_16
      refine h_ia es28 rfl rfl hy_19 rfl wa (h_ldc sz9 ag9 rfl (vS y_18) rfl wa (h_op (vB (sLe x_4 y_18)) wa rfl (h_op (vB (sLe x_4 y_18)) wz rfl (h_nil ?_))))
      obtain rfl:=some_inj h_16
      exact cu
     ·refine h_movb rfl hc_17 wz (h_skip wa (h_skip wa (h_skip wa (h_skip wa (h_skip wa (h_skip wa (h_skip wa (h_op (vB false) wz rfl (h_nil ?_)))))))))
      obtain rfl:=some_inj h_16
      exact cu
    ·rintro ⟨⟩ _ sl_ H_ hp_ hq_
     refine wH_at _ hp_ hq_ ?_
     rcases cond_some hc_8 with⟨hc_20,hc_8⟩ | ⟨hc_20,hc_8⟩
     ·refine wH_ift rfl hc_20 (wH_seq (wH_region (h_op (vI 7) wz rfl (h_nil ?_))))
      obtain rfl:=some_inj hc_8
      obtain rfl:=some_inj hL_9
      obtain rfl:=some_inj hF
      exact wH_ret (fin0 (.inr rfl) [(vI 7)] ⟨rfl,trivial⟩ rfl rfl rfl)
     ·refine wH_iff rfl hc_20 (wH_skip (wH_region (h_opw (w64_next hD_5 hn_6) wz rfl (h_op (vI ((k_2 + 1:Nat):Int)) wz rfl (h_nil ?_)))))
      obtain rfl:=some_inj hc_8
      exact loop_mk (k_2 + 1,l_3,()) ⟨hL_9,drop_next hD_5⟩ (Nat.lt_succ_self _) rfl (pre_r rfl)
 ·rintro s_7 ho_ sl_ H_ hp_ hq_
  subst ho_
  refine wH_at _ hp_ hq_ (wH_seq (wH_region (h_op (vI 0) wz rfl (h_nil ?_))))
  obtain rfl:=some_inj hF
  exact wH_ret (fin0 (.inr rfl) [(vI 0)] ⟨rfl,trivial⟩ rfl rfl rfl)
theorem schedule_tagsFault_ok {l_1:(List ByteArray)} {r:Int} (hF:schedule_tagsFault l_1=some r) :
  FnM Tryz.prog 70 [(vL eS l_1)] [] (vI r) []:=by
 refine FnM.of_wH ⟨Tryz.prog,8,[],[]⟩ rfl Tryz.func70 rfl rfl (Nat.le_of_ble_eq_true rfl) (by kernel_rfl) ?_
 unfold schedule_tagsFault at hF
 refine wH_seq (wH_region (h_op (vI 0) wz rfl (h_nil (wH_seq (wH_seq (wH_region (h_op (vL eS l_1) wz rfl (h_len un28 rfl wz (h_op (vB (decide ((l_1.length:Int) > 20))) wz rfl (h_nil ?_))))))))))
 rcases cond_some hF with⟨hc_2,hF⟩ | ⟨hc_2,hF⟩
 ·refine wH_ift rfl hc_2 (wH_seq (wH_region (h_op (vI 2) wz rfl (h_nil ?_))))
  obtain rfl:=some_inj hF
  exact wH_ret (fin0 (.inr rfl) [(vI 2)] ⟨rfl,trivial⟩ rfl rfl rfl)
 ·refine wH_iff rfl hc_2 (wH_skip (wH_seq (wH_region (h_op (vL eS l_1) wz rfl ?_))))
  obtain ⟨r_3,hr_4,hF⟩:=bind_some hF
  refine h_call0 (kit_RisingFault_ok hr_4) rfl hb92 rfl rfl rfl rfl wz (h_op (vI r_3) wz rfl (h_nil ?_))
  obtain rfl:=some_inj hF
  exact wH_ret (fin0 (.inr rfl) [(vI r_3)] ⟨rfl,trivial⟩ rfl rfl rfl)
theorem schedule_entryFault_ok {e_1:Entry} {r:Int} (hF:schedule_entryFault e_1=some r) :
  FnM Tryz.prog 68 [(.d (.agg (Entry.enc e_1)))] [] (vI r) []:=by
 refine FnM.of_wH ⟨Tryz.prog,61,[],[]⟩ rfl Tryz.func68 rfl rfl (Nat.le_of_ble_eq_true rfl) (by kernel_rfl) ?_
 unfold schedule_entryFault at hF
 refine wH_seq (wH_region (h_box 0 (.inl rfl) [(vS e_1.Key),(vS e_1.Item),(vI e_1.Version),(vI e_1.First),(vI e_1.Last),(vI e_1.Every),(vI e_1.Days),(vL eI e_1.Except),(vI e_1.From),(vI e_1.To),(vI e_1.Prio),(vL eS e_1.Tags),(vB e_1.Gone)] rfl rfl wz (fun n_2=>h_op (vI 0) wz rfl (h_nil (wH_seq (wH_seq ?_))))))
 obtain ⟨v_3,h_4,hF⟩:=bind_some hF
 refine wH_join (β:=Unit) (fun _=>([(1,(.ref n_2 0 0)),(13,(vB v_3))]:List (Nat×V))) (fun _=>([(n_2,some (.cells 13 [(vS e_1.Key),(vS e_1.Item),(vI e_1.Version),(vI e_1.First),(vI e_1.Last),(vI e_1.Every),(vI e_1.Days),(vL eI e_1.Except),(vI e_1.From),(vI e_1.To),(vI e_1.Prio),(vL eS e_1.Tags),(vB e_1.Gone)]))]:Hp)) (fun _=>True) ?_ ?_
 ·refine wH_region (h_far pl55_0 rfl 0 rfl wz (h_ldr 0 0 il ft sz9 ag9 rfl rfl (vS e_1.Key) rfl wz ?_))
  obtain ⟨r_5,hr_6,h_4⟩:=bind_some h_4
  refine h_call0 (kit_IsKey_ok hr_6) rfl hb69 rfl rfl rfl rfl wz (h_op (vB (!r_5)) wz rfl ?_)
  rcases cond_some h_4 with⟨hc_7,h_4⟩ | ⟨hc_7,h_4⟩
  ·refine h_movb rfl hc_7 wz (h_skip wa (h_skip wa (h_skip wa (h_skip wa (h_op (vB true) wz rfl (h_nil ?_))))))
   obtain rfl:=some_inj h_4
   exact cu
  ·refine h_movb rfl hc_7 wz (h_far pl55_1 rfl 1 rfl wa (h_ldr 0 0 il ft sz9 ag9 rfl rfl (vS e_1.Item) rfl wa ?_))
   obtain ⟨r_8,hr_9,h_4⟩:=bind_some h_4
   refine h_call0 (kit_IsKey_ok hr_9) rfl hb69 rfl rfl rfl rfl wa (h_op (vB (!r_8)) wa rfl (h_op (vB (!r_8)) wz rfl (h_nil ?_)))
   obtain rfl:=some_inj h_4
   exact cu
 ·rintro ⟨⟩ _ sl_ H_ hp_ hq_
  refine wH_at _ hp_ hq_ ?_
  rcases cond_some hF with⟨hc_10,hF⟩ | ⟨hc_10,hF⟩
  ·refine wH_ift rfl hc_10 (wH_seq (wH_region (h_op (vI 5) wz rfl (h_nil ?_))))
   obtain rfl:=some_inj hF
   exact wH_ret (fin0 (.inr rfl) [(vI 5)] ⟨rfl,trivial⟩ rfl rfl rfl)
  ·refine wH_iff rfl hc_10 (wH_skip (wH_seq (wH_seq ?_)))
   obtain ⟨v_11,h_12,hF⟩:=bind_some hF
   refine wH_join (β:=Unit) (fun _=>([(1,(.ref n_2 0 0)),(38,(vB v_11))]:List (Nat×V))) (fun _=>([(n_2,some (.cells 13 [(vS e_1.Key),(vS e_1.Item),(vI e_1.Version),(vI e_1.First),(vI e_1.Last),(vI e_1.Every),(vI e_1.Days),(vL eI e_1.Except),(vI e_1.From),(vI e_1.To),(vI e_1.Prio),(vL eS e_1.Tags),(vB e_1.Gone)]))]:Hp)) (fun _=>True) ?_ ?_
   ·refine wH_region (h_far pl55_2 rfl 2 rfl wz (h_ldr 0 0 il ft sz3 ag3 rfl rfl (vI e_1.Version) rfl wz ?_))
    obtain ⟨r_13,hr_14,h_12⟩:=bind_some h_12
    refine h_call0 (kit_Outside_ok hr_14) rfl hb57 rfl rfl rfl rfl wz ?_
    rcases cond_some h_12 with⟨hc_15,h_12⟩ | ⟨hc_15,h_12⟩
    ·refine h_movb rfl hc_15 wz (h_skip wa (h_skip wa (h_skip wa (h_skip wa (h_skip wa (h_op (vB true) wz rfl (h_op (vB true) wz rfl (h_skip wa (h_skip wa (h_skip wa (h_op (vB true) wz rfl (h_op (vB true) wz rfl (h_skip wa (h_skip wa (h_skip wa (h_op (vB true) wz rfl (h_op (vB true) wz rfl (h_skip wa (h_skip wa (h_skip wa (h_op (vB true) wz rfl (h_nil ?_))))))))))))))))))))))
     obtain rfl:=some_inj h_12
     exact cu
    ·refine h_movb rfl hc_15 wz (h_far pl55_3 rfl 3 rfl wa (h_ldr 0 0 il ft sz3 ag3 rfl rfl (vI e_1.First) rfl wa (h_far pl55_4 rfl 4 rfl wa (h_ldr 0 0 il ft sz3 ag3 rfl rfl (vI e_1.Last) rfl wa ?_))))
     obtain ⟨r_16,hr_17,h_12⟩:=bind_some h_12
     refine h_call0 (kit_Outside_ok hr_17) rfl hb57 rfl rfl rfl rfl wa (h_op (vB r_16) wz rfl ?_)
     rcases cond_some h_12 with⟨hc_18,h_12⟩ | ⟨hc_18,h_12⟩
     ·refine h_movb rfl hc_18 wz (h_skip wa (h_skip wa (h_skip wa (h_op (vB true) wz rfl (h_op (vB true) wz rfl (h_skip wa (h_skip wa (h_skip wa (h_op (vB true) wz rfl (h_op (vB true) wz rfl (h_skip wa (h_skip wa (h_skip wa (h_op (vB true) wz rfl (h_nil ?_)))))))))))))))
      obtain rfl:=some_inj h_12
      exact cu
     ·refine h_movb rfl hc_18 wz (h_far pl55_4 rfl 4 rfl wa (h_ldr 0 0 il ft sz3 ag3 rfl rfl (vI e_1.Last) rfl wa (h_op (vB (decide (e_1.Last > 4000))) wa rfl (h_op (vB (decide (e_1.Last > 4000))) wz rfl ?_))))
      rcases cond_some h_12 with⟨hc_19,h_12⟩ | ⟨hc_19,h_12⟩
      ·refine h_movb rfl hc_19 wz (h_skip wa (h_skip wa (h_skip wa (h_op (vB true) wz rfl (h_op (vB true) wz rfl (h_skip wa (h_skip wa (h_skip wa (h_op (vB true) wz rfl (h_nil ?_))))))))))
       obtain rfl:=some_inj h_12
       exact cu
      ·refine h_movb rfl hc_19 wz (h_far pl55_5 rfl 5 rfl wa (h_ldr 0 0 il ft sz3 ag3 rfl rfl (vI e_1.Every) rfl wa ?_))
       obtain ⟨r_20,hr_21,h_12⟩:=bind_some h_12
       refine h_call0 (kit_Outside_ok hr_21) rfl hb57 rfl rfl rfl rfl wa (h_op (vB r_20) wz rfl ?_)
       rcases cond_some h_12 with⟨hc_22,h_12⟩ | ⟨hc_22,h_12⟩
       ·refine h_movb rfl hc_22 wz (h_skip wa (h_skip wa (h_skip wa (h_op (vB true) wz rfl (h_nil ?_)))))
        obtain rfl:=some_inj h_12
        exact cu
       ·refine h_movb rfl hc_22 wz (h_far pl55_6 rfl 6 rfl wa (h_ldr 0 0 il ft sz3 ag3 rfl rfl (vI e_1.Days) rfl wa ?_))
        obtain ⟨r_23,hr_24,h_12⟩:=bind_some h_12
        refine h_call0 (kit_Outside_ok hr_24) rfl hb57 rfl rfl rfl rfl wa (h_op (vB r_23) wz rfl (h_nil ?_))
        obtain rfl:=some_inj h_12
        exact cu
   ·rintro ⟨⟩ _ sl_ H_ hp_ hq_
    refine wH_at _ hp_ hq_ ?_
    rcases cond_some hF with⟨hc_25,hF⟩ | ⟨hc_25,hF⟩
    ·refine wH_ift rfl hc_25 (wH_seq (wH_region (h_op (vI 1) wz rfl (h_nil ?_))))
     obtain rfl:=some_inj hF
     exact wH_ret (fin0 (.inr rfl) [(vI 1)] ⟨rfl,trivial⟩ rfl rfl rfl)
    ·refine wH_iff rfl hc_25 (wH_skip (wH_seq (wH_seq (wH_region (h_far pl55_7 rfl 7 rfl wz (h_ldr 0 0 il ft sz22 ag22 rfl rfl (vL eI e_1.Except) rfl wz ?_))))))
     obtain ⟨r_26,hr_27,hF⟩:=bind_some hF
     refine h_call0 (schedule_exceptFault_ok hr_27) rfl hb91 rfl rfl rfl rfl wz (h_op (vI r_26) wz rfl (h_nil (wH_seq (wH_region (h_op (vI r_26) wz rfl (h_op (vB (r_26 != 0)) wz rfl (h_nil ?_)))))))
     rcases cond_some hF with⟨hc_28,hF⟩ | ⟨hc_28,hF⟩
     ·refine wH_ift rfl hc_28 (wH_seq (wH_region (h_op (vI r_26) wz rfl (h_op (vI r_26) wz rfl (h_nil ?_)))))
      obtain rfl:=some_inj hF
      exact wH_ret (fin0 (.inr rfl) [(vI r_26)] ⟨rfl,trivial⟩ rfl rfl rfl)
     ·refine wH_iff rfl hc_28 (wH_skip (wH_seq (wH_seq ?_)))
      obtain ⟨v_29,h_30,hF⟩:=bind_some hF
      refine wH_join (β:=Unit) (fun _=>([(1,(.ref n_2 0 0)),(57,(vB v_29))]:List (Nat×V))) (fun _=>([(n_2,some (.cells 13 [(vS e_1.Key),(vS e_1.Item),(vI e_1.Version),(vI e_1.First),(vI e_1.Last),(vI e_1.Every),(vI e_1.Days),(vL eI e_1.Except),(vI e_1.From),(vI e_1.To),(vI e_1.Prio),(vL eS e_1.Tags),(vB e_1.Gone)]))]:Hp)) (fun _=>True) ?_ ?_
      ·refine wH_region (h_far pl55_8 rfl 8 rfl wz (h_ldr 0 0 il ft sz3 ag3 rfl rfl (vI e_1.From) rfl wz ?_))
       obtain ⟨r_31,hr_32,h_30⟩:=bind_some h_30
       refine h_call0 (kit_Outside_ok hr_32) rfl hb57 rfl rfl rfl rfl wz ?_
       rcases cond_some h_30 with⟨hc_33,h_30⟩ | ⟨hc_33,h_30⟩
       ·refine h_movb rfl hc_33 wz (h_skip wa (h_skip wa (h_skip wa (h_op (vB true) wz rfl (h_op (vB true) wz rfl (h_skip wa (h_skip wa (h_skip wa (h_op (vB true) wz rfl (h_nil ?_))))))))))
        obtain rfl:=some_inj h_30
        exact cu
       ·refine h_movb rfl hc_33 wz (h_far pl55_9 rfl 9 rfl wa (h_ldr 0 0 il ft sz3 ag3 rfl rfl (vI e_1.To) rfl wa ?_))
        obtain ⟨r_34,hr_35,h_30⟩:=bind_some h_30
        refine h_call0 (kit_Outside_ok hr_35) rfl hb57 rfl rfl rfl rfl wa (h_op (vB r_34) wz rfl ?_)
        rcases cond_some h_30 with⟨hc_36,h_30⟩ | ⟨hc_36,h_30⟩
        ·refine h_movb rfl hc_36 wz (h_skip wa (h_skip wa (h_skip wa (h_op (vB true) wz rfl (h_nil ?_)))))
         obtain rfl:=some_inj h_30
         exact cu
        ·refine h_movb rfl hc_36 wz (h_far pl55_10 rfl 10 rfl wa (h_ldr 0 0 il ft sz3 ag3 rfl rfl (vI e_1.Prio) rfl wa ?_))
         obtain ⟨r_37,hr_38,h_30⟩:=bind_some h_30
         refine h_call0 (kit_Outside_ok hr_38) rfl hb57 rfl rfl rfl rfl wa (h_op (vB r_37) wz rfl (h_nil ?_))
         obtain rfl:=some_inj h_30
         exact cu
      ·rintro ⟨⟩ _ sl_ H_ hp_ hq_
       refine wH_at _ hp_ hq_ ?_
       rcases cond_some hF with⟨hc_39,hF⟩ | ⟨hc_39,hF⟩
       ·refine wH_ift rfl hc_39 (wH_seq (wH_region (h_op (vI 1) wz rfl (h_nil ?_))))
        obtain rfl:=some_inj hF
        exact wH_ret (fin0 (.inr rfl) [(vI 1)] ⟨rfl,trivial⟩ rfl rfl rfl)
       ·refine wH_iff rfl hc_39 (wH_skip (wH_seq (wH_region (h_far pl55_11 rfl 11 rfl wz (h_ldr 0 0 il ft sz28 ag28 rfl rfl (vL eS e_1.Tags) rfl wz ?_)))))
        obtain ⟨r_40,hr_41,hF⟩:=bind_some hF
        refine h_call0 (schedule_tagsFault_ok hr_41) rfl hb70 rfl rfl rfl rfl wz (h_op (vI r_40) wz rfl (h_nil ?_))
        obtain rfl:=some_inj hF
        exact wH_ret (fin0 (.inr rfl) [(vI r_40)] ⟨rfl,trivial⟩ rfl rfl rfl)
theorem schedule_CheckEntries_ok {l_1:(List Entry)} {r:Int} (hF:schedule_CheckEntries l_1=some r) :
  FnM Tryz.prog 43 [(vL Entry.enc l_1)] [] (vI r) []:=by
 refine FnM.of_wH ⟨Tryz.prog,35,[],[]⟩ rfl Tryz.func43 rfl rfl (Nat.le_of_ble_eq_true rfl) (by kernel_rfl) ?_
 unfold schedule_CheckEntries at hF
 refine wH_seq (wH_region (h_op (vI 0) wz rfl (h_nil (wH_seq (wH_seq (wH_region (h_op (vL Entry.enc l_1) wz rfl (h_len un26 rfl wz (h_op (vB (decide ((l_1.length:Int) > 200))) wz rfl (h_nil ?_))))))))))
 rcases cond_some hF with⟨hc_2,hF⟩ | ⟨hc_2,hF⟩
 ·refine wH_ift rfl hc_2 (wH_seq (wH_region (h_op (vI 2) wz rfl (h_nil ?_))))
  obtain rfl:=some_inj hF
  exact wH_ret (fin0 (.inr rfl) [(vI 2)] ⟨rfl,trivial⟩ rfl rfl rfl)
 ·refine wH_iff rfl hc_2 (wH_skip (wH_seq (wH_seq (wH_region (h_op (vL Entry.enc l_1) wz rfl (h_len un26 rfl wz (h_op (vI 0) wz rfl (h_nil ?_))))))))
  obtain ⟨o_11,hj_12,hF⟩:=bind_some hF
  obtain ⟨hn_7,hj_12⟩:=forL_some hj_12
  refine wH_join (β:=(Unit)) (fun (s_8:Unit)=>([]:List (Nat×V))) (fun (s_8:Unit)=>([]:Hp)) (fun p=>o_11 = .go p) ?_ ?_
  ·refine wH_block (wH_loop (β:=Nat×(List Entry)×(Unit)) (fun p=>(fun (k_3:Nat) (l_4:List Entry) (s_8:Unit)=>([(0,(vL Entry.enc l_1)),(9,(vL Entry.enc l_1)),(10,(vI (l_1.length:Int))),(11,(vI (k_3:Int)))]:List (Nat×V))) p.1 p.2.1 p.2.2) (fun p=>(fun (k_3:Nat) (l_4:List Entry) (s_8:Unit)=>([]:Hp)) p.1 p.2.1 p.2.2) (fun p=>forR (fun k x s=>schedule_CheckEntries_L1 l_1 k x s) p.2.1 p.1 p.2.2=some o_11∧(l_1).drop p.1=p.2.1) (fun p=>p.2.1.length) (0,l_1,()) ⟨hj_12,rfl⟩ rfl (pre_r rfl) ?_)
   rintro ⟨k_3,l_4,s_8⟩ ⟨hL_10,hD_6⟩
   dsimp only at hL_10 hD_6
   cases l_4 with
   | nil =>
    obtain rfl:=some_inj hL_10
    refine wH_seq (wH_region (h_op (vB (decide ((k_3:Int) < (l_1.length:Int)))) wz rfl (h_nil ?_)))
    refine wH_seq (wH_iff rfl (drop_nil hD_6) (wH_exit ?_))
    exact cut_mk (s_8) rfl rfl (pre_r rfl)
   | cons x_5 l_4 =>
    obtain ⟨c_,hc_9,hL_10⟩:=bind_some hL_10
    refine wH_seq (wH_region (h_op (vB (decide ((k_3:Int) < (l_1.length:Int)))) wz rfl (h_nil ?_)))
    refine wH_seq (wH_ift rfl (drop_cons hD_6) (wH_skip ?_))
    unfold schedule_CheckEntries_L1 at hc_9
    refine wH_seq (wH_block (wH_seq (wH_region (h_op (vI (k_3:Int)) wz rfl (h_ia es26 rfl rfl (drop_idx hD_6) rfl wz (h_ldc sz55 ag55 rfl (.d (.agg (Entry.enc x_5))) rfl wz (h_alloc 0 (.inl rfl) z55 rfl wz (fun n_13=>h_op (vI (k_3:Int)) wz rfl (h_str 0 il ft 0 sz55 rfl rfl [(vS x_5.Key),(vS x_5.Item),(vI x_5.Version),(vI x_5.First),(vI x_5.Last),(vI x_5.Every),(vI x_5.Days),(vL eI x_5.Except),(vI x_5.From),(vI x_5.To),(vI x_5.Prio),(vL eS x_5.Tags),(vB x_5.Gone)] rfl wz (h_nil (wH_seq (wH_seq (wH_region (h_ldr 0 0 il ft sz55 ag55 rfl rfl (.d (.agg (Entry.enc x_5))) rfl wz ?_))))))))))))))
    obtain ⟨r_14,hr_15,hc_9⟩:=bind_some hc_9
    refine h_call0 (schedule_entryFault_ok hr_15) rfl hb68 rfl rfl rfl rfl wz (h_op (vI r_14) wz rfl (h_nil (wH_seq (wH_region (h_op (vI r_14) wz rfl (h_op (vB (r_14 != 0)) wz rfl (h_nil ?_)))))))
    rcases cond_some hc_9 with⟨hc_16,hc_9⟩ | ⟨hc_16,hc_9⟩
    ·refine wH_ift rfl hc_16 (wH_seq (wH_region (h_op (vI r_14) wz rfl (h_op (vI r_14) wz rfl (h_nil ?_)))))
     obtain rfl:=some_inj hc_9
     obtain rfl:=some_inj hL_10
     obtain rfl:=some_inj hF
     exact wH_ret (fin0 (.inr rfl) [(vI r_14)] ⟨rfl,trivial⟩ rfl rfl rfl)
    ·refine wH_iff rfl hc_16 (wH_skip (wH_seq ?_))
     obtain ⟨v_17,h_18,hc_9⟩:=bind_some hc_9
     refine wH_join (β:=Unit) (fun _=>([(0,(vL Entry.enc l_1)),(9,(vL Entry.enc l_1)),(10,(vI (l_1.length:Int))),(11,(vI (k_3:Int))),(33,(vB v_17))]:List (Nat×V))) (fun _=>([(n_13,some (.cells 13 [(vS x_5.Key),(vS x_5.Item),(vI x_5.Version),(vI x_5.First),(vI x_5.Last),(vI x_5.Every),(vI x_5.Days),(vL eI x_5.Except),(vI x_5.From),(vI x_5.To),(vI x_5.Prio),(vL eS x_5.Tags),(vB x_5.Gone)]))]:Hp)) (fun _=>True) ?_ ?_
     ·refine wH_draws (h_op (vI (k_3:Int)) wz rfl (h_op (vB (decide ((k_3:Int) > 0))) wz rfl ?_))
      rcases cond_some h_18 with⟨hc_19,h_18⟩ | ⟨hc_19,h_18⟩
      ·refine h_movb rfl hc_19 wz (h_far pl55_0 rfl 0 rfl wa (h_ldr 4 0 (.inr (by kernel_rfl)) (fun _ _ ag=>trivial) sz9 ag9 rfl rfl (vS x_5.Key) rfl wa (h_op (vL Entry.enc l_1) wa rfl (h_op (vI (k_3:Int)) wa rfl (h_op (vI (w64 ((k_3:Int) - 1))) wa rfl ?_)))))
       obtain ⟨y_20,hy_21,h_18⟩:=bind_some h_18
       refine h_ia es26 rfl rfl hy_21 rfl wa (h_fac pl55_0 rfl [.str y_20.Key,.str y_20.Item,.int .i64 y_20.Version,.int .i64 y_20.First,.int .i64 y_20.Last,.int .i64 y_20.Every,.int .i64 y_20.Days,dl eI y_20.Except,.int .i64 y_20.From,.int .i64 y_20.To,.int .i64 y_20.Prio,dl eS y_20.Tags,.bool y_20.Gone] rfl rfl wa (h_ldc sz9 ag9 rfl (vS y_20.Key) rfl wa (h_op (vB (sLe x_5.Key y_20.Key)) wa rfl (h_op (vB (sLe x_5.Key y_20.Key)) wz rfl (h_nil ?_)))))
       obtain rfl:=some_inj h_18
       exact cu
      ·refine h_movb rfl hc_19 wz (h_skip wa (h_skip wa (h_skip wa (h_skip wa (h_skip wa (h_skip wa (h_skip wa (h_skip wa (h_skip wa (h_op (vB false) wz rfl (h_nil ?_)))))))))))
       obtain rfl:=some_inj h_18
       exact cu
     ·rintro ⟨⟩ _ sl_ H_ hp_ hq_
      refine wH_at _ hp_ hq_ ?_
      rcases cond_some hc_9 with⟨hc_22,hc_9⟩ | ⟨hc_22,hc_9⟩
      ·refine wH_ift rfl hc_22 (wH_seq (wH_region (h_op (vI 7) wz rfl (h_nil ?_))))
       obtain rfl:=some_inj hc_9
       obtain rfl:=some_inj hL_10
       obtain rfl:=some_inj hF
       exact wH_ret (fin0 (.inr rfl) [(vI 7)] ⟨rfl,trivial⟩ rfl rfl rfl)
      ·refine wH_iff rfl hc_22 (wH_skip (wH_region (h_opw (w64_next hD_6 hn_7) wz rfl (h_op (vI ((k_3 + 1:Nat):Int)) wz rfl (h_nil ?_)))))
       obtain rfl:=some_inj hc_9
       exact loop_mk (k_3 + 1,l_4,()) ⟨hL_10,drop_next hD_6⟩ (Nat.lt_succ_self _) rfl (pre_r rfl)
  ·rintro s_8 ho_ sl_ H_ hp_ hq_
   subst ho_
   refine wH_at _ hp_ hq_ (wH_seq (wH_region (h_op (vI 0) wz rfl (h_nil ?_))))
   obtain rfl:=some_inj hF
   exact wH_ret (fin0 (.inr rfl) [(vI 0)] ⟨rfl,trivial⟩ rfl rfl rfl)
theorem schedule_CheckPlayer_ok {p_1:Player} {r:Int} (hF:schedule_CheckPlayer p_1=some r) :
  FnM Tryz.prog 44 [(.d (.agg (Player.enc p_1)))] [] (vI r) []:=by
 refine FnM.of_wH ⟨Tryz.prog,19,[],[]⟩ rfl Tryz.func44 rfl rfl (Nat.le_of_ble_eq_true rfl) (by kernel_rfl) ?_
 unfold schedule_CheckPlayer at hF
 refine wH_seq (wH_region (h_box 0 (.inl rfl) [(vS p_1.Key),(vS p_1.Screen),(vI p_1.Zone),(vL eS p_1.Tags)] rfl rfl wz (fun n_2=>h_op (vI 0) wz rfl (h_nil (wH_seq (wH_seq ?_))))))
 obtain ⟨v_3,h_4,hF⟩:=bind_some hF
 refine wH_join (β:=Unit) (fun _=>([(1,(.ref n_2 0 0)),(12,(vB v_3))]:List (Nat×V))) (fun _=>([(n_2,some (.cells 4 [(vS p_1.Key),(vS p_1.Screen),(vI p_1.Zone),(vL eS p_1.Tags)]))]:Hp)) (fun _=>True) ?_ ?_
 ·refine wH_region (h_far pl30_0 rfl 0 rfl wz (h_ldr 0 0 il ft sz9 ag9 rfl rfl (vS p_1.Key) rfl wz ?_))
  obtain ⟨r_5,hr_6,h_4⟩:=bind_some h_4
  refine h_call0 (kit_IsKey_ok hr_6) rfl hb69 rfl rfl rfl rfl wz (h_op (vB (!r_5)) wz rfl ?_)
  rcases cond_some h_4 with⟨hc_7,h_4⟩ | ⟨hc_7,h_4⟩
  ·refine h_movb rfl hc_7 wz (h_skip wa (h_skip wa (h_skip wa (h_skip wa (h_op (vB true) wz rfl (h_nil ?_))))))
   obtain rfl:=some_inj h_4
   exact cu
  ·refine h_movb rfl hc_7 wz (h_far pl30_1 rfl 1 rfl wa (h_ldr 0 0 il ft sz9 ag9 rfl rfl (vS p_1.Screen) rfl wa ?_))
   obtain ⟨r_8,hr_9,h_4⟩:=bind_some h_4
   refine h_call0 (kit_IsKey_ok hr_9) rfl hb69 rfl rfl rfl rfl wa (h_op (vB (!r_8)) wa rfl (h_op (vB (!r_8)) wz rfl (h_nil ?_)))
   obtain rfl:=some_inj h_4
   exact cu
 ·rintro ⟨⟩ _ sl_ H_ hp_ hq_
  refine wH_at _ hp_ hq_ ?_
  rcases cond_some hF with⟨hc_10,hF⟩ | ⟨hc_10,hF⟩
  ·refine wH_ift rfl hc_10 (wH_seq (wH_region (h_op (vI 5) wz rfl (h_nil ?_))))
   obtain rfl:=some_inj hF
   exact wH_ret (fin0 (.inr rfl) [(vI 5)] ⟨rfl,trivial⟩ rfl rfl rfl)
  ·refine wH_iff rfl hc_10 (wH_skip (wH_seq (wH_seq (wH_region (h_far pl30_2 rfl 2 rfl wz (h_ldr 0 0 il ft sz3 ag3 rfl rfl (vI p_1.Zone) rfl wz ?_))))))
   obtain ⟨r_11,hr_12,hF⟩:=bind_some hF
   refine h_call0 (kit_Outside_ok hr_12) rfl hb57 rfl rfl rfl rfl wz (h_nil ?_)
   rcases cond_some hF with⟨hc_13,hF⟩ | ⟨hc_13,hF⟩
   ·refine wH_ift rfl hc_13 (wH_seq (wH_region (h_op (vI 1) wz rfl (h_nil ?_))))
    obtain rfl:=some_inj hF
    exact wH_ret (fin0 (.inr rfl) [(vI 1)] ⟨rfl,trivial⟩ rfl rfl rfl)
   ·refine wH_iff rfl hc_13 (wH_skip (wH_seq (wH_region (h_far pl30_3 rfl 3 rfl wz (h_ldr 0 0 il ft sz28 ag28 rfl rfl (vL eS p_1.Tags) rfl wz ?_)))))
    obtain ⟨r_14,hr_15,hF⟩:=bind_some hF
    refine h_call0 (schedule_tagsFault_ok hr_15) rfl hb70 rfl rfl rfl rfl wz (h_op (vI r_14) wz rfl (h_nil ?_))
    obtain rfl:=some_inj hF
    exact wH_ret (fin0 (.inr rfl) [(vI r_14)] ⟨rfl,trivial⟩ rfl rfl rfl)
theorem kit_IsMoment_ok {n_1:Int} {r:Bool} (hF:kit_IsMoment n_1=some r) :
  FnM Tryz.prog 45 [(vI n_1)] [] (vB r) []:=by
 refine FnM.of_wH ⟨Tryz.prog,9,[],[]⟩ rfl Tryz.func45 rfl rfl (Nat.le_of_ble_eq_true rfl) (by kernel_rfl) ?_
 unfold kit_IsMoment at hF
 refine wH_seq (wH_region (h_op (vB false) wz rfl (h_nil (wH_seq ?_))))
 obtain ⟨v_2,h_3,hF⟩:=bind_some hF
 refine wH_join (β:=Unit) (fun _=>([(2,(vB v_2))]:List (Nat×V))) (fun _=>([]:Hp)) (fun _=>True) ?_ ?_
 ·refine wH_region (h_op (vI n_1) wz rfl (h_op (vB (decide (n_1≥0))) wz rfl ?_))
  rcases cond_some h_3 with⟨hc_4,h_3⟩ | ⟨hc_4,h_3⟩
  ·refine h_movb rfl hc_4 wz (h_op (vI n_1) wa rfl (h_op (vB (decide (n_1 < 345686400000))) wa rfl (h_op (vB (decide (n_1 < 345686400000))) wz rfl (h_op (vB (decide (n_1 < 345686400000))) wz rfl (h_nil ?_)))))
   obtain rfl:=some_inj h_3
   exact cu
  ·refine h_movb rfl hc_4 wz (h_skip wa (h_skip wa (h_op (vB false) wz rfl (h_op (vB false) wz rfl (h_nil ?_)))))
   obtain rfl:=some_inj h_3
   exact cu
 ·rintro ⟨⟩ _ sl_ H_ hp_ hq_
  refine wH_at _ hp_ hq_ ?_
  obtain rfl:=some_inj hF
  exact wH_ret (fin0 (.inr rfl) [(vB v_2)] ⟨rfl,trivial⟩ rfl rfl rfl)
theorem schedule_momentFault_ok {l_1:(List Entry)} {p_2:Player} {atv_3:Int} {r:Int} (hF:schedule_momentFault l_1 p_2 atv_3=some r) :
  FnM Tryz.prog 27 [(vL Entry.enc l_1),(.d (.agg (Player.enc p_2))),(vI atv_3)] [] (vI r) []:=by
 refine FnM.of_wH ⟨Tryz.prog,22,[],[]⟩ rfl Tryz.func27 rfl rfl (Nat.le_of_ble_eq_true rfl) (by kernel_rfl) ?_
 unfold schedule_momentFault at hF
 refine wH_seq (wH_region (h_box 0 (.inl rfl) [(vS p_2.Key),(vS p_2.Screen),(vI p_2.Zone),(vL eS p_2.Tags)] rfl rfl wz (fun n_4=>h_op (vI 0) wz rfl (h_nil (wH_seq (wH_seq (wH_region (h_op (vL Entry.enc l_1) wz rfl ?_))))))))
 obtain ⟨r_5,hr_6,hF⟩:=bind_some hF
 refine h_call0 (schedule_CheckEntries_ok hr_6) rfl hb43 rfl rfl rfl rfl wz (h_op (vI r_5) wz rfl (h_nil (wH_seq (wH_region (h_op (vI r_5) wz rfl (h_op (vB (r_5 != 0)) wz rfl (h_nil ?_)))))))
 rcases cond_some hF with⟨hc_7,hF⟩ | ⟨hc_7,hF⟩
 ·refine wH_ift rfl hc_7 (wH_seq (wH_region (h_op (vI r_5) wz rfl (h_op (vI r_5) wz rfl (h_nil ?_)))))
  obtain rfl:=some_inj hF
  exact wH_ret (fin0 (.inr rfl) [(vI r_5)] ⟨rfl,trivial⟩ rfl rfl rfl)
 ·refine wH_iff rfl hc_7 (wH_skip (wH_seq (wH_seq (wH_region (h_ldr 0 0 il ft sz30 ag30 rfl rfl (.d (.agg (Player.enc p_2))) rfl wz ?_)))))
  obtain ⟨r_8,hr_9,hF⟩:=bind_some hF
  refine h_call0 (schedule_CheckPlayer_ok hr_9) rfl hb44 rfl rfl rfl rfl wz (h_op (vI r_8) wz rfl (h_nil (wH_seq (wH_region (h_op (vI r_8) wz rfl (h_op (vB (r_8 != 0)) wz rfl (h_nil ?_)))))))
  rcases cond_some hF with⟨hc_10,hF⟩ | ⟨hc_10,hF⟩
  ·refine wH_ift rfl hc_10 (wH_seq (wH_region (h_op (vI r_8) wz rfl (h_op (vI r_8) wz rfl (h_nil ?_)))))
   obtain rfl:=some_inj hF
   exact wH_ret (fin0 (.inr rfl) [(vI r_8)] ⟨rfl,trivial⟩ rfl rfl rfl)
  ·refine wH_iff rfl hc_10 (wH_skip (wH_seq (wH_seq (wH_region (h_op (vI atv_3) wz rfl ?_)))))
   obtain ⟨r_11,hr_12,hF⟩:=bind_some hF
   refine h_call0 (kit_IsMoment_ok hr_12) rfl hb45 rfl rfl rfl rfl wz (h_op (vB (!r_11)) wz rfl (h_nil ?_))
   rcases cond_some hF with⟨hc_13,hF⟩ | ⟨hc_13,hF⟩
   ·refine wH_ift rfl hc_13 (wH_seq (wH_region (h_op (vI 1) wz rfl (h_nil ?_))))
    obtain rfl:=some_inj hF
    exact wH_ret (fin0 (.inr rfl) [(vI 1)] ⟨rfl,trivial⟩ rfl rfl rfl)
   ·refine wH_iff rfl hc_13 (wH_skip (wH_seq (wH_region (h_op (vI 0) wz rfl (h_nil ?_)))))
    obtain rfl:=some_inj hF
    exact wH_ret (fin0 (.inr rfl) [(vI 0)] ⟨rfl,trivial⟩ rfl rfl rfl)
theorem cmp_isNaN_string_ok {x_1:ByteArray} {r:Bool} (hF:cmp_isNaN_string x_1=some r) :
  FnM Tryz.prog 142 [(vS x_1)] [] (vB r) []:=by
 refine FnM.of_wH ⟨Tryz.prog,6,[],[]⟩ rfl Tryz.func142 rfl rfl (Nat.le_of_ble_eq_true rfl) (by kernel_rfl) ?_
 unfold cmp_isNaN_string at hF
 refine wH_seq (wH_region (h_op (vB false) wz rfl (h_nil (wH_seq (wH_region (h_op (vS x_1) wz rfl (h_op (vS x_1) wz rfl (h_op (vB (sNe x_1 x_1)) wz rfl (h_op (vB (sNe x_1 x_1)) wz rfl (h_nil ?_))))))))))
 obtain rfl:=some_inj hF
 exact wH_ret (fin0 (.inr rfl) [(vB (sNe x_1 x_1))] ⟨rfl,trivial⟩ rfl rfl rfl)
theorem cmp_Less_string_ok {x_1:ByteArray} {y_2:ByteArray} {r:Bool} (hF:cmp_Less_string x_1 y_2=some r) :
  FnM Tryz.prog 120 [(vS x_1),(vS y_2)] [] (vB r) []:=by
 refine FnM.of_wH ⟨Tryz.prog,17,[],[]⟩ rfl Tryz.func120 rfl rfl (Nat.le_of_ble_eq_true rfl) (by kernel_rfl) ?_
 unfold cmp_Less_string at hF
 refine wH_seq (wH_region (h_op (vB false) wz rfl (h_nil (wH_seq ?_))))
 obtain ⟨v_3,h_4,hF⟩:=bind_some hF
 refine wH_join (β:=Unit) (fun _=>([(4,(vB v_3))]:List (Nat×V))) (fun _=>([]:Hp)) (fun _=>True) ?_ ?_
 ·refine wH_region (h_op (vS x_1) wz rfl ?_)
  obtain ⟨r_5,hr_6,h_4⟩:=bind_some h_4
  refine h_call0 (cmp_isNaN_string_ok hr_6) rfl hb142 rfl rfl rfl rfl wz ?_
  rcases cond_some h_4 with⟨hc_7,h_4⟩ | ⟨hc_7,h_4⟩
  ·refine h_movb rfl hc_7 wz (h_op (vS y_2) wa rfl ?_)
   obtain ⟨r_8,hr_9,h_4⟩:=bind_some h_4
   refine h_call0 (cmp_isNaN_string_ok hr_9) rfl hb142 rfl rfl rfl rfl wa (h_op (vB (!r_8)) wa rfl (h_op (vB (!r_8)) wz rfl ?_))
   rcases cond_some h_4 with⟨hc_10,h_4⟩ | ⟨hc_10,h_4⟩
   ·refine h_movb rfl hc_10 wz (h_skip wa (h_skip wa (h_skip wa (h_op (vB true) wz rfl (h_op (vB true) wz rfl (h_nil ?_))))))
    obtain rfl:=some_inj h_4
    exact cu
   ·refine h_movb rfl hc_10 wz (h_op (vS x_1) wa rfl (h_op (vS y_2) wa rfl (h_op (vB (sLt x_1 y_2)) wa rfl (h_op (vB (sLt x_1 y_2)) wz rfl (h_op (vB (sLt x_1 y_2)) wz rfl (h_nil ?_))))))
    obtain rfl:=some_inj h_4
    exact cu
  ·refine h_movb rfl hc_7 wz (h_skip wa (h_skip wa (h_skip wa (h_op (vB false) wz rfl (h_op (vB false) wz rfl (h_op (vS x_1) wa rfl (h_op (vS y_2) wa rfl (h_op (vB (sLt x_1 y_2)) wa rfl (h_op (vB (sLt x_1 y_2)) wz rfl (h_op (vB (sLt x_1 y_2)) wz rfl (h_nil ?_)))))))))))
   obtain rfl:=some_inj h_4
   exact cu
 ·rintro ⟨⟩ _ sl_ H_ hp_ hq_
  refine wH_at _ hp_ hq_ ?_
  obtain rfl:=some_inj hF
  exact wH_ret (fin0 (.inr rfl) [(vB v_3)] ⟨rfl,trivial⟩ rfl rfl rfl)
theorem slices_isNaN_string_ok {x_1:ByteArray} {r:Bool} (hF:slices_isNaN_string x_1=some r) :
  FnM Tryz.prog 121 [(vS x_1)] [] (vB r) []:=by
 refine FnM.of_wH ⟨Tryz.prog,6,[],[]⟩ rfl Tryz.func121 rfl rfl (Nat.le_of_ble_eq_true rfl) (by kernel_rfl) ?_
 unfold slices_isNaN_string at hF
 refine wH_seq (wH_region (h_op (vB false) wz rfl (h_nil (wH_seq (wH_region (h_op (vS x_1) wz rfl (h_op (vS x_1) wz rfl (h_op (vB (sNe x_1 x_1)) wz rfl (h_op (vB (sNe x_1 x_1)) wz rfl (h_nil ?_))))))))))
 obtain rfl:=some_inj hF
 exact wH_ret (fin0 (.inr rfl) [(vB (sNe x_1 x_1))] ⟨rfl,trivial⟩ rfl rfl rfl)
theorem slices_BinarySearch_string_string_ok {x_1:(List ByteArray)} {target_2:ByteArray} {r:Int×Bool} (hF:slices_BinarySearch_string_string x_1 target_2=some r) :
  FnM Tryz.prog 93 [(vL eS x_1),(vS target_2)] [] (.tup [(vI r.1),(vB r.2)]) []:=by
 refine FnM.of_wH ⟨Tryz.prog,54,[],[]⟩ rfl Tryz.func93 rfl rfl (Nat.le_of_ble_eq_true rfl) (by kernel_rfl) ?_
 unfold slices_BinarySearch_string_string at hF
 refine wH_seq (wH_region (h_op (vI 0) wz rfl (h_op (vB false) wz rfl (h_nil (wH_seq (wH_region (h_op (vL eS x_1) wz rfl (h_len un28 rfl wz (h_op (vI (x_1.length:Int)) wz rfl (h_nil (wH_seq (wH_region (h_op (vI (x_1.length:Int)) wz rfl (h_op (vI 0) wz rfl (h_op (vI (x_1.length:Int)) wz rfl (h_nil (wH_seq ?_)))))))))))))))))
 obtain ⟨o_11,hj_12,hF⟩:=bind_some hF
 obtain ⟨nq_34,hj_12⟩:=loopO_iter hj_12
 refine wH_join (β:=(Int×Int)) (fun (s_8:Int×Int)=>([(0,(vL eS x_1)),(1,(vS target_2)),(6,(vI (x_1.length:Int))),(7,(vI s_8.1))]:List (Nat×V))) (fun (s_8:Int×Int)=>([]:Hp)) (fun p=>o_11 = .go p) ?_ ?_
 ·refine wH_block (wH_loop (β:=Nat×(Int×Int)) (fun p=>(fun (k_3:Nat) (s_8:Int×Int)=>([(0,(vL eS x_1)),(1,(vS target_2)),(6,(vI (x_1.length:Int))),(7,(vI s_8.1)),(8,(vI s_8.2))]:List (Nat×V))) p.1 p.2) (fun p=>(fun (k_3:Nat) (s_8:Int×Int)=>([]:Hp)) p.1 p.2) (fun p=>iterN (fun s=>slices_BinarySearch_string_string_L1 x_1 target_2 s) p.1 p.2=some o_11) (fun p=>p.1) (nq_34,(0,(x_1.length:Int))) hj_12 rfl (pre_r rfl) ?_)
  rintro ⟨k_3,s_8⟩ hL_10
  dsimp only at hL_10
  cases k_3 with
  | zero=>cases hL_10
  | succ k_3 =>
   obtain ⟨c_,hc_9,hL_10⟩:=bind_some hL_10
   unfold slices_BinarySearch_string_string_L1 at hc_9
   refine wH_seq (wH_seq (wH_region (h_op (vI s_8.1) wz rfl (h_op (vI s_8.2) wz rfl (h_op (vB (decide (s_8.1 < s_8.2))) wz rfl (h_nil ?_))))))
   rcases cond_some hc_9 with⟨hc_13,hc_9⟩ | ⟨hc_13,hc_9⟩
   ·refine wH_ift rfl hc_13 (wH_skip (wH_block (wH_seq (wH_region (h_op (vI s_8.1) wz rfl (h_op (vI s_8.2) wz rfl (h_op (vI (w64 (s_8.1 + s_8.2))) wz rfl (h_conv un3 un105 rfl wz ?_))))))))
    obtain ⟨q_14,hz_15,hc_9⟩:=bind_some hc_9
    refine h_shr rfl rfl hz_15 wz (h_conv un105 un3 rfl wz (h_op (vI (w64 q_14)) wz rfl (h_nil (wH_seq (wH_region (h_op (vL eS x_1) wz rfl (h_op (vI (w64 q_14)) wz rfl ?_)))))))
    obtain ⟨y_16,hy_17,hc_9⟩:=bind_some hc_9
    refine h_ia es28 rfl rfl hy_17 rfl wz (h_ldc sz9 ag9 rfl (vS y_16) rfl wz (h_op (vS target_2) wz rfl ?_))
    obtain ⟨r_18,hr_19,hc_9⟩:=bind_some hc_9
    refine h_call0 (cmp_Less_string_ok hr_19) rfl hb120 rfl rfl rfl rfl wz (h_nil ?_)
    rcases cond_some hc_9 with⟨hc_20,hc_9⟩ | ⟨hc_20,hc_9⟩
    ·refine wH_ift rfl hc_20 (wH_region (h_op (vI (w64 q_14)) wz rfl (h_op (vI (w64 ((w64 q_14) + 1))) wz rfl (h_op (vI (w64 ((w64 q_14) + 1))) wz rfl (h_nil ?_)))))
     obtain rfl:=some_inj hc_9
     exact loop_mk (k_3,((w64 ((w64 q_14) + 1)),s_8.2)) hL_10 (Nat.lt_succ_self _) rfl (pre_r rfl)
    ·refine wH_iff rfl hc_20 (wH_region (h_op (vI (w64 q_14)) wz rfl (h_op (vI (w64 q_14)) wz rfl (h_nil ?_))))
     obtain rfl:=some_inj hc_9
     exact loop_mk (k_3,(s_8.1,(w64 q_14))) hL_10 (Nat.lt_succ_self _) rfl (pre_r rfl)
   ·refine wH_iff rfl hc_13 (wH_exit ?_)
    obtain rfl:=some_inj hc_9
    obtain rfl:=some_inj hL_10
    exact cut_mk ((s_8.1,s_8.2)) rfl rfl (pre_r rfl)
 ·rintro s_8 ho_ sl_ H_ hp_ hq_
  subst ho_
  refine wH_at _ hp_ hq_ (wH_seq ?_)
  obtain ⟨v_21,h_22,hF⟩:=bind_some hF
  refine wH_join (β:=Unit) (fun _=>([(4,(vI s_8.1)),(5,(vB v_21))]:List (Nat×V))) (fun _=>([]:Hp)) (fun _=>True) ?_ ?_
  ·refine wH_region (h_op (vI s_8.1) wz rfl (h_op (vI s_8.1) wz rfl (h_op (vI (x_1.length:Int)) wz rfl (h_op (vB (decide (s_8.1 < (x_1.length:Int)))) wz rfl ?_))))
   rcases cond_some h_22 with⟨hc_23,h_22⟩ | ⟨hc_23,h_22⟩
   ·refine h_movb rfl hc_23 wz (h_op (vL eS x_1) wa rfl (h_op (vI s_8.1) wa rfl ?_))
    obtain ⟨y_24,hy_25,h_22⟩:=bind_some h_22
    refine h_ia es28 rfl rfl hy_25 rfl wa (h_ldc sz9 ag9 rfl (vS y_24) rfl wa (h_op (vS target_2) wa rfl (h_op (vB (sEq y_24 target_2)) wa rfl ?_)))
    rcases cond_some h_22 with⟨hc_26,h_22⟩ | ⟨hc_26,h_22⟩
    ·refine h_movb rfl hc_26 wa (h_skip wa (h_skip wa (h_skip wa (h_skip wa (h_skip wa (h_skip wa (h_skip (wn rfl rfl) (h_skip (wn rfl rfl) (h_skip wa (h_op (vB true) wa rfl (h_op (vB true) wz rfl (h_op (vI s_8.1) wz rfl (h_op (vB true) wz rfl (h_nil ?_))))))))))))))
     obtain rfl:=some_inj h_22
     exact cu
    ·refine h_movb rfl hc_26 wa (h_op (vL eS x_1) wa rfl (h_op (vI s_8.1) wa rfl ?_))
     obtain ⟨y_27,hy_28,h_22⟩:=bind_some h_22
     refine h_ia es28 rfl rfl hy_28 rfl wa (h_ldc sz9 ag9 rfl (vS y_27) rfl wa ?_)
     obtain ⟨r_29,hr_30,h_22⟩:=bind_some h_22
     refine h_call0 (slices_isNaN_string_ok hr_30) rfl hb121 rfl rfl rfl rfl wa ?_
     rcases cond_some h_22 with⟨hc_31,h_22⟩ | ⟨hc_31,h_22⟩
     ·refine h_movb rfl hc_31 wa (h_op (vS target_2) wa rfl ?_)
      obtain ⟨r_32,hr_33,h_22⟩:=bind_some h_22
      refine h_call0 (slices_isNaN_string_ok hr_33) rfl hb121 rfl rfl rfl rfl wa (h_op (vB r_32) wa rfl (h_op (vB r_32) wa rfl (h_op (vB r_32) wz rfl (h_op (vI s_8.1) wz rfl (h_op (vB r_32) wz rfl (h_nil ?_))))))
      obtain rfl:=some_inj h_22
      exact cu
     ·refine h_movb rfl hc_31 wa (h_skip wa (h_skip wa (h_op (vB false) wa rfl (h_op (vB false) wa rfl (h_op (vB false) wz rfl (h_op (vI s_8.1) wz rfl (h_op (vB false) wz rfl (h_nil ?_))))))))
      obtain rfl:=some_inj h_22
      exact cu
   ·refine h_movb rfl hc_23 wz (h_skip wa (h_skip wa (h_skip wa (h_skip wa (h_skip wa (h_skip wa (h_skip wa (h_skip (wn rfl rfl) (h_skip (wn rfl rfl) (h_skip (wn rfl rfl) (h_skip (wn rfl rfl) (h_skip (wn rfl rfl) (h_skip (wn rfl rfl) (h_skip (wn rfl rfl) (h_skip (wn rfl rfl) (h_skip (wn rfl rfl) (h_skip wa (h_op (vB false) wz rfl (h_op (vI s_8.1) wz rfl (h_op (vB false) wz rfl (h_nil ?_)))))))))))))))))))))
    obtain rfl:=some_inj h_22
    exact cu
  ·rintro ⟨⟩ _ sl_ H_ hp_ hq_
   refine wH_at _ hp_ hq_ ?_
   obtain rfl:=some_inj hF
   exact wH_ret (fin0 (.inr rfl) [(vI s_8.1),(vB v_21)] ⟨rfl,⟨rfl,trivial⟩⟩ rfl rfl rfl)
theorem schedule_fits_ok {e_1:Entry} {p_2:Player} {r:Bool} (hF:schedule_fits e_1 p_2=some r) :
  FnM Tryz.prog 71 [(.d (.agg (Entry.enc e_1))),(.d (.agg (Player.enc p_2)))] [] (vB r) []:=by
 refine FnM.of_wH ⟨Tryz.prog,26,[],[]⟩ rfl Tryz.func71 rfl rfl (Nat.le_of_ble_eq_true rfl) (by kernel_rfl) ?_
 unfold schedule_fits at hF
 refine wH_seq (wH_region (h_box 0 (.inl rfl) [(vS e_1.Key),(vS e_1.Item),(vI e_1.Version),(vI e_1.First),(vI e_1.Last),(vI e_1.Every),(vI e_1.Days),(vL eI e_1.Except),(vI e_1.From),(vI e_1.To),(vI e_1.Prio),(vL eS e_1.Tags),(vB e_1.Gone)] rfl rfl wz (fun n_3=>h_box 0 (.inl rfl) [(vS p_2.Key),(vS p_2.Screen),(vI p_2.Zone),(vL eS p_2.Tags)] rfl rfl wz (fun n_4=>h_op (vB false) wz rfl (h_nil (wH_seq (wH_seq (wH_region (h_far pl55_11 rfl 11 rfl wz (h_ldr 0 0 il ft sz28 ag28 rfl rfl (vL eS e_1.Tags) rfl wz (h_len un28 rfl wz (h_op (vI 0) wz rfl (h_nil ?_)))))))))))))
 obtain ⟨o_13,hj_14,hF⟩:=bind_some hF
 obtain ⟨hn_9,hj_14⟩:=forL_some hj_14
 refine wH_join (β:=(Unit)) (fun (s_10:Unit)=>([]:List (Nat×V))) (fun (s_10:Unit)=>([(n_3,some (.cells 13 [(vS e_1.Key),(vS e_1.Item),(vI e_1.Version),(vI e_1.First),(vI e_1.Last),(vI e_1.Every),(vI e_1.Days),(vL eI e_1.Except),(vI e_1.From),(vI e_1.To),(vI e_1.Prio),(vL eS e_1.Tags),(vB e_1.Gone)])),(n_4,some (.cells 4 [(vS p_2.Key),(vS p_2.Screen),(vI p_2.Zone),(vL eS p_2.Tags)]))]:Hp)) (fun p=>o_13 = .go p) ?_ ?_
 ·refine wH_block (wH_loop (β:=Nat×(List ByteArray)×(Unit)) (fun p=>(fun (k_5:Nat) (l_6:List ByteArray) (s_10:Unit)=>([(3,(.ref n_4 0 0)),(10,(vL eS e_1.Tags)),(11,(vI (e_1.Tags.length:Int))),(12,(vI (k_5:Int)))]:List (Nat×V))) p.1 p.2.1 p.2.2) (fun p=>(fun (k_5:Nat) (l_6:List ByteArray) (s_10:Unit)=>([(n_3,some (.cells 13 [(vS e_1.Key),(vS e_1.Item),(vI e_1.Version),(vI e_1.First),(vI e_1.Last),(vI e_1.Every),(vI e_1.Days),(vL eI e_1.Except),(vI e_1.From),(vI e_1.To),(vI e_1.Prio),(vL eS e_1.Tags),(vB e_1.Gone)])),(n_4,some (.cells 4 [(vS p_2.Key),(vS p_2.Screen),(vI p_2.Zone),(vL eS p_2.Tags)]))]:Hp)) p.1 p.2.1 p.2.2) (fun p=>forR (fun k x s=>schedule_fits_L1 p_2 k x s) p.2.1 p.1 p.2.2=some o_13∧(e_1.Tags).drop p.1=p.2.1) (fun p=>p.2.1.length) (0,e_1.Tags,()) ⟨hj_14,rfl⟩ rfl (pre_r rfl) ?_)
  rintro ⟨k_5,l_6,s_10⟩ ⟨hL_12,hD_8⟩
  dsimp only at hL_12 hD_8
  cases l_6 with
  | nil =>
   obtain rfl:=some_inj hL_12
   refine wH_seq (wH_region (h_op (vB (decide ((k_5:Int) < (e_1.Tags.length:Int)))) wz rfl (h_nil ?_)))
   refine wH_seq (wH_iff rfl (drop_nil hD_8) (wH_exit ?_))
   exact cut_mk (s_10) rfl rfl (pre_r rfl)
  | cons x_7 l_6 =>
   obtain ⟨c_,hc_11,hL_12⟩:=bind_some hL_12
   refine wH_seq (wH_region (h_op (vB (decide ((k_5:Int) < (e_1.Tags.length:Int)))) wz rfl (h_nil ?_)))
   refine wH_seq (wH_ift rfl (drop_cons hD_8) (wH_skip ?_))
   unfold schedule_fits_L1 at hc_11
   refine wH_seq (wH_block (wH_seq (wH_region (h_ia es28 rfl rfl (drop_idx hD_8) rfl wz (h_ldc sz9 ag9 rfl (vS x_7) rfl wz (h_op (vS x_7) wz rfl (h_nil (wH_seq (wH_region (h_far pl30_3 rfl 3 rfl wz (h_ldr 0 1 il ft sz28 ag28 rfl rfl (vL eS p_2.Tags) rfl wz (h_op (vS x_7) wz rfl ?_))))))))))))
   obtain ⟨r_15,hr_16,hc_11⟩:=bind_some hc_11
   refine h_call0 (slices_BinarySearch_string_string_ok hr_16) rfl hb93 rfl rfl rfl rfl wz (h_op (.tup [(vI r_15.1),(vB r_15.2)]) wz rfl (h_op (vI r_15.1) wz rfl (h_op (vB r_15.2) wz rfl (h_op (vI r_15.1) wz rfl (h_op (vB r_15.2) wz rfl (h_nil (wH_seq (wH_region (h_op (vB r_15.2) wz rfl (h_op (vB (!r_15.2)) wz rfl (h_nil ?_)))))))))))
   rcases cond_some hc_11 with⟨hc_17,hc_11⟩ | ⟨hc_17,hc_11⟩
   ·refine wH_ift rfl hc_17 (wH_seq (wH_region (h_op (vB false) wz rfl (h_nil ?_))))
    obtain rfl:=some_inj hc_11
    obtain rfl:=some_inj hL_12
    obtain rfl:=some_inj hF
    exact wH_ret (fin0 (.inr rfl) [(vB false)] ⟨rfl,trivial⟩ rfl rfl rfl)
   ·refine wH_iff rfl hc_17 (wH_skip (wH_region (h_opw (w64_next hD_8 hn_9) wz rfl (h_op (vI ((k_5 + 1:Nat):Int)) wz rfl (h_nil ?_)))))
    obtain rfl:=some_inj hc_11
    exact loop_mk (k_5 + 1,l_6,()) ⟨hL_12,drop_next hD_8⟩ (Nat.lt_succ_self _) rfl (pre_r rfl)
 ·rintro s_10 ho_ sl_ H_ hp_ hq_
  subst ho_
  refine wH_at _ hp_ hq_ (wH_seq (wH_region (h_op (vB true) wz rfl (h_nil ?_))))
  obtain rfl:=some_inj hF
  exact wH_ret (fin0 (.inr rfl) [(vB true)] ⟨rfl,trivial⟩ rfl rfl rfl)
theorem cmp_isNaN_int_ok {x_1:Int} {r:Bool} (hF:cmp_isNaN_int x_1=some r) :
  FnM Tryz.prog 75 [(vI x_1)] [] (vB r) []:=by
 refine FnM.of_wH ⟨Tryz.prog,6,[],[]⟩ rfl Tryz.func75 rfl rfl (Nat.le_of_ble_eq_true rfl) (by kernel_rfl) ?_
 unfold cmp_isNaN_int at hF
 refine wH_seq (wH_region (h_op (vB false) wz rfl (h_nil (wH_seq (wH_region (h_op (vI x_1) wz rfl (h_op (vI x_1) wz rfl (h_op (vB (x_1 != x_1)) wz rfl (h_op (vB (x_1 != x_1)) wz rfl (h_nil ?_))))))))))
 obtain rfl:=some_inj hF
 exact wH_ret (fin0 (.inr rfl) [(vB (x_1 != x_1))] ⟨rfl,trivial⟩ rfl rfl rfl)
theorem cmp_Less_int_ok {x_1:Int} {y_2:Int} {r:Bool} (hF:cmp_Less_int x_1 y_2=some r) :
  FnM Tryz.prog 133 [(vI x_1),(vI y_2)] [] (vB r) []:=by
 refine FnM.of_wH ⟨Tryz.prog,17,[],[]⟩ rfl Tryz.func133 rfl rfl (Nat.le_of_ble_eq_true rfl) (by kernel_rfl) ?_
 unfold cmp_Less_int at hF
 refine wH_seq (wH_region (h_op (vB false) wz rfl (h_nil (wH_seq ?_))))
 obtain ⟨v_3,h_4,hF⟩:=bind_some hF
 refine wH_join (β:=Unit) (fun _=>([(4,(vB v_3))]:List (Nat×V))) (fun _=>([]:Hp)) (fun _=>True) ?_ ?_
 ·refine wH_region (h_op (vI x_1) wz rfl ?_)
  obtain ⟨r_5,hr_6,h_4⟩:=bind_some h_4
  refine h_call0 (cmp_isNaN_int_ok hr_6) rfl hb75 rfl rfl rfl rfl wz ?_
  rcases cond_some h_4 with⟨hc_7,h_4⟩ | ⟨hc_7,h_4⟩
  ·refine h_movb rfl hc_7 wz (h_op (vI y_2) wa rfl ?_)
   obtain ⟨r_8,hr_9,h_4⟩:=bind_some h_4
   refine h_call0 (cmp_isNaN_int_ok hr_9) rfl hb75 rfl rfl rfl rfl wa (h_op (vB (!r_8)) wa rfl (h_op (vB (!r_8)) wz rfl ?_))
   rcases cond_some h_4 with⟨hc_10,h_4⟩ | ⟨hc_10,h_4⟩
   ·refine h_movb rfl hc_10 wz (h_skip wa (h_skip wa (h_skip wa (h_op (vB true) wz rfl (h_op (vB true) wz rfl (h_nil ?_))))))
    obtain rfl:=some_inj h_4
    exact cu
   ·refine h_movb rfl hc_10 wz (h_op (vI x_1) wa rfl (h_op (vI y_2) wa rfl (h_op (vB (decide (x_1 < y_2))) wa rfl (h_op (vB (decide (x_1 < y_2))) wz rfl (h_op (vB (decide (x_1 < y_2))) wz rfl (h_nil ?_))))))
    obtain rfl:=some_inj h_4
    exact cu
  ·refine h_movb rfl hc_7 wz (h_skip wa (h_skip wa (h_skip wa (h_op (vB false) wz rfl (h_op (vB false) wz rfl (h_op (vI x_1) wa rfl (h_op (vI y_2) wa rfl (h_op (vB (decide (x_1 < y_2))) wa rfl (h_op (vB (decide (x_1 < y_2))) wz rfl (h_op (vB (decide (x_1 < y_2))) wz rfl (h_nil ?_)))))))))))
   obtain rfl:=some_inj h_4
   exact cu
 ·rintro ⟨⟩ _ sl_ H_ hp_ hq_
  refine wH_at _ hp_ hq_ ?_
  obtain rfl:=some_inj hF
  exact wH_ret (fin0 (.inr rfl) [(vB v_3)] ⟨rfl,trivial⟩ rfl rfl rfl)
theorem slices_isNaN_int_ok {x_1:Int} {r:Bool} (hF:slices_isNaN_int x_1=some r) :
  FnM Tryz.prog 137 [(vI x_1)] [] (vB r) []:=by
 refine FnM.of_wH ⟨Tryz.prog,6,[],[]⟩ rfl Tryz.func137 rfl rfl (Nat.le_of_ble_eq_true rfl) (by kernel_rfl) ?_
 unfold slices_isNaN_int at hF
 refine wH_seq (wH_region (h_op (vB false) wz rfl (h_nil (wH_seq (wH_region (h_op (vI x_1) wz rfl (h_op (vI x_1) wz rfl (h_op (vB (x_1 != x_1)) wz rfl (h_op (vB (x_1 != x_1)) wz rfl (h_nil ?_))))))))))
 obtain rfl:=some_inj hF
 exact wH_ret (fin0 (.inr rfl) [(vB (x_1 != x_1))] ⟨rfl,trivial⟩ rfl rfl rfl)
theorem slices_BinarySearch_int_int_ok {x_1:(List Int)} {target_2:Int} {r:Int×Bool} (hF:slices_BinarySearch_int_int x_1 target_2=some r) :
  FnM Tryz.prog 106 [(vL eI x_1),(vI target_2)] [] (.tup [(vI r.1),(vB r.2)]) []:=by
 refine FnM.of_wH ⟨Tryz.prog,54,[],[]⟩ rfl Tryz.func106 rfl rfl (Nat.le_of_ble_eq_true rfl) (by kernel_rfl) ?_
 unfold slices_BinarySearch_int_int at hF
 refine wH_seq (wH_region (h_op (vI 0) wz rfl (h_op (vB false) wz rfl (h_nil (wH_seq (wH_region (h_op (vL eI x_1) wz rfl (h_len un22 rfl wz (h_op (vI (x_1.length:Int)) wz rfl (h_nil (wH_seq (wH_region (h_op (vI (x_1.length:Int)) wz rfl (h_op (vI 0) wz rfl (h_op (vI (x_1.length:Int)) wz rfl (h_nil (wH_seq ?_)))))))))))))))))
 obtain ⟨o_11,hj_12,hF⟩:=bind_some hF
 obtain ⟨nq_34,hj_12⟩:=loopO_iter hj_12
 refine wH_join (β:=(Int×Int)) (fun (s_8:Int×Int)=>([(0,(vL eI x_1)),(1,(vI target_2)),(6,(vI (x_1.length:Int))),(7,(vI s_8.1))]:List (Nat×V))) (fun (s_8:Int×Int)=>([]:Hp)) (fun p=>o_11 = .go p) ?_ ?_
 ·refine wH_block (wH_loop (β:=Nat×(Int×Int)) (fun p=>(fun (k_3:Nat) (s_8:Int×Int)=>([(0,(vL eI x_1)),(1,(vI target_2)),(6,(vI (x_1.length:Int))),(7,(vI s_8.1)),(8,(vI s_8.2))]:List (Nat×V))) p.1 p.2) (fun p=>(fun (k_3:Nat) (s_8:Int×Int)=>([]:Hp)) p.1 p.2) (fun p=>iterN (fun s=>slices_BinarySearch_int_int_L1 x_1 target_2 s) p.1 p.2=some o_11) (fun p=>p.1) (nq_34,(0,(x_1.length:Int))) hj_12 rfl (pre_r rfl) ?_)
  rintro ⟨k_3,s_8⟩ hL_10
  dsimp only at hL_10
  cases k_3 with
  | zero=>cases hL_10
  | succ k_3 =>
   obtain ⟨c_,hc_9,hL_10⟩:=bind_some hL_10
   unfold slices_BinarySearch_int_int_L1 at hc_9
   refine wH_seq (wH_seq (wH_region (h_op (vI s_8.1) wz rfl (h_op (vI s_8.2) wz rfl (h_op (vB (decide (s_8.1 < s_8.2))) wz rfl (h_nil ?_))))))
   rcases cond_some hc_9 with⟨hc_13,hc_9⟩ | ⟨hc_13,hc_9⟩
   ·refine wH_ift rfl hc_13 (wH_skip (wH_block (wH_seq (wH_region (h_op (vI s_8.1) wz rfl (h_op (vI s_8.2) wz rfl (h_op (vI (w64 (s_8.1 + s_8.2))) wz rfl (h_conv un3 un105 rfl wz ?_))))))))
    obtain ⟨q_14,hz_15,hc_9⟩:=bind_some hc_9
    refine h_shr rfl rfl hz_15 wz (h_conv un105 un3 rfl wz (h_op (vI (w64 q_14)) wz rfl (h_nil (wH_seq (wH_region (h_op (vL eI x_1) wz rfl (h_op (vI (w64 q_14)) wz rfl ?_)))))))
    obtain ⟨y_16,hy_17,hc_9⟩:=bind_some hc_9
    refine h_ia es22 rfl rfl hy_17 rfl wz (h_ldc sz3 ag3 rfl (vI y_16) rfl wz (h_op (vI target_2) wz rfl ?_))
    obtain ⟨r_18,hr_19,hc_9⟩:=bind_some hc_9
    refine h_call0 (cmp_Less_int_ok hr_19) rfl hb133 rfl rfl rfl rfl wz (h_nil ?_)
    rcases cond_some hc_9 with⟨hc_20,hc_9⟩ | ⟨hc_20,hc_9⟩
    ·refine wH_ift rfl hc_20 (wH_region (h_op (vI (w64 q_14)) wz rfl (h_op (vI (w64 ((w64 q_14) + 1))) wz rfl (h_op (vI (w64 ((w64 q_14) + 1))) wz rfl (h_nil ?_)))))
     obtain rfl:=some_inj hc_9
     exact loop_mk (k_3,((w64 ((w64 q_14) + 1)),s_8.2)) hL_10 (Nat.lt_succ_self _) rfl (pre_r rfl)
    ·refine wH_iff rfl hc_20 (wH_region (h_op (vI (w64 q_14)) wz rfl (h_op (vI (w64 q_14)) wz rfl (h_nil ?_))))
     obtain rfl:=some_inj hc_9
     exact loop_mk (k_3,(s_8.1,(w64 q_14))) hL_10 (Nat.lt_succ_self _) rfl (pre_r rfl)
   ·refine wH_iff rfl hc_13 (wH_exit ?_)
    obtain rfl:=some_inj hc_9
    obtain rfl:=some_inj hL_10
    exact cut_mk ((s_8.1,s_8.2)) rfl rfl (pre_r rfl)
 ·rintro s_8 ho_ sl_ H_ hp_ hq_
  subst ho_
  refine wH_at _ hp_ hq_ (wH_seq ?_)
  obtain ⟨v_21,h_22,hF⟩:=bind_some hF
  refine wH_join (β:=Unit) (fun _=>([(4,(vI s_8.1)),(5,(vB v_21))]:List (Nat×V))) (fun _=>([]:Hp)) (fun _=>True) ?_ ?_
  ·refine wH_region (h_op (vI s_8.1) wz rfl (h_op (vI s_8.1) wz rfl (h_op (vI (x_1.length:Int)) wz rfl (h_op (vB (decide (s_8.1 < (x_1.length:Int)))) wz rfl ?_))))
   rcases cond_some h_22 with⟨hc_23,h_22⟩ | ⟨hc_23,h_22⟩
   ·refine h_movb rfl hc_23 wz (h_op (vL eI x_1) wa rfl (h_op (vI s_8.1) wa rfl ?_))
    obtain ⟨y_24,hy_25,h_22⟩:=bind_some h_22
    refine h_ia es22 rfl rfl hy_25 rfl wa (h_ldc sz3 ag3 rfl (vI y_24) rfl wa (h_op (vI target_2) wa rfl (h_op (vB (y_24 == target_2)) wa rfl ?_)))
    rcases cond_some h_22 with⟨hc_26,h_22⟩ | ⟨hc_26,h_22⟩
    ·refine h_movb rfl hc_26 wa (h_skip wa (h_skip wa (h_skip wa (h_skip wa (h_skip wa (h_skip wa (h_skip (wn rfl rfl) (h_skip (wn rfl rfl) (h_skip wa (h_op (vB true) wa rfl (h_op (vB true) wz rfl (h_op (vI s_8.1) wz rfl (h_op (vB true) wz rfl (h_nil ?_))))))))))))))
     obtain rfl:=some_inj h_22
     exact cu
    ·refine h_movb rfl hc_26 wa (h_op (vL eI x_1) wa rfl (h_op (vI s_8.1) wa rfl ?_))
     obtain ⟨y_27,hy_28,h_22⟩:=bind_some h_22
     refine h_ia es22 rfl rfl hy_28 rfl wa (h_ldc sz3 ag3 rfl (vI y_27) rfl wa ?_)
     obtain ⟨r_29,hr_30,h_22⟩:=bind_some h_22
     refine h_call0 (slices_isNaN_int_ok hr_30) rfl hb137 rfl rfl rfl rfl wa ?_
     rcases cond_some h_22 with⟨hc_31,h_22⟩ | ⟨hc_31,h_22⟩
     ·refine h_movb rfl hc_31 wa (h_op (vI target_2) wa rfl ?_)
      obtain ⟨r_32,hr_33,h_22⟩:=bind_some h_22
      refine h_call0 (slices_isNaN_int_ok hr_33) rfl hb137 rfl rfl rfl rfl wa (h_op (vB r_32) wa rfl (h_op (vB r_32) wa rfl (h_op (vB r_32) wz rfl (h_op (vI s_8.1) wz rfl (h_op (vB r_32) wz rfl (h_nil ?_))))))
      obtain rfl:=some_inj h_22
      exact cu
     ·refine h_movb rfl hc_31 wa (h_skip wa (h_skip wa (h_op (vB false) wa rfl (h_op (vB false) wa rfl (h_op (vB false) wz rfl (h_op (vI s_8.1) wz rfl (h_op (vB false) wz rfl (h_nil ?_))))))))
      obtain rfl:=some_inj h_22
      exact cu
   ·refine h_movb rfl hc_23 wz (h_skip wa (h_skip wa (h_skip wa (h_skip wa (h_skip wa (h_skip wa (h_skip wa (h_skip (wn rfl rfl) (h_skip (wn rfl rfl) (h_skip (wn rfl rfl) (h_skip (wn rfl rfl) (h_skip (wn rfl rfl) (h_skip (wn rfl rfl) (h_skip (wn rfl rfl) (h_skip (wn rfl rfl) (h_skip (wn rfl rfl) (h_skip wa (h_op (vB false) wz rfl (h_op (vI s_8.1) wz rfl (h_op (vB false) wz rfl (h_nil ?_)))))))))))))))))))))
    obtain rfl:=some_inj h_22
    exact cu
  ·rintro ⟨⟩ _ sl_ H_ hp_ hq_
   refine wH_at _ hp_ hq_ ?_
   obtain rfl:=some_inj hF
   exact wH_ret (fin0 (.inr rfl) [(vI s_8.1),(vB v_21)] ⟨rfl,⟨rfl,trivial⟩⟩ rfl rfl rfl)
theorem schedule_isDay_ok {e_1:Entry} {d_2:Int} {r:Bool} (hF:schedule_isDay e_1 d_2=some r) :
  FnM Tryz.prog 80 [(.d (.agg (Entry.enc e_1))),(vI d_2)] [] (vB r) []:=by
 refine FnM.of_wH ⟨Tryz.prog,41,[],[]⟩ rfl Tryz.func80 rfl rfl (Nat.le_of_ble_eq_true rfl) (by kernel_rfl) ?_
 unfold schedule_isDay at hF
 refine wH_seq (wH_region (h_box 0 (.inl rfl) [(vS e_1.Key),(vS e_1.Item),(vI e_1.Version),(vI e_1.First),(vI e_1.Last),(vI e_1.Every),(vI e_1.Days),(vL eI e_1.Except),(vI e_1.From),(vI e_1.To),(vI e_1.Prio),(vL eS e_1.Tags),(vB e_1.Gone)] rfl rfl wz (fun n_3=>h_op (vB false) wz rfl (h_nil (wH_seq (wH_seq ?_))))))
 obtain ⟨v_4,h_5,hF⟩:=bind_some hF
 refine wH_join (β:=Unit) (fun _=>([(1,(vI d_2)),(2,(.ref n_3 0 0)),(31,(vB v_4))]:List (Nat×V))) (fun _=>([(n_3,some (.cells 13 [(vS e_1.Key),(vS e_1.Item),(vI e_1.Version),(vI e_1.First),(vI e_1.Last),(vI e_1.Every),(vI e_1.Days),(vL eI e_1.Except),(vI e_1.From),(vI e_1.To),(vI e_1.Prio),(vL eS e_1.Tags),(vB e_1.Gone)]))]:Hp)) (fun _=>True) ?_ ?_
 ·refine wH_draws (h_op (vI d_2) wz rfl (h_far pl55_3 rfl 3 rfl wz (h_ldr 2 0 (.inr (by kernel_rfl)) (fun _ _ ag=>trivial) sz3 ag3 rfl rfl (vI e_1.First) rfl wz (h_far pl55_4 rfl 4 rfl wz (h_ldr 4 0 (.inr (by kernel_rfl)) (fun _ _ ag=>⟨.inl ⟨rfl,rfl⟩,trivial⟩) sz3 ag3 rfl rfl (vI e_1.Last) rfl wz ?_)))))
  obtain ⟨r_6,hr_7,h_5⟩:=bind_some h_5
  refine h_call0 (kit_Outside_ok hr_7) rfl hb57 rfl rfl rfl rfl wz ?_
  rcases cond_some h_5 with⟨hc_8,h_5⟩ | ⟨hc_8,h_5⟩
  ·refine h_movb rfl hc_8 wz (h_skip wa (h_skip wa (h_skip wa (h_skip wa (h_skip wa (h_skip wa (h_skip wa (h_skip wa (h_op (vB true) wz rfl (h_op (vB true) wz rfl (h_skip wa (h_skip wa (h_skip wa (h_skip wa (h_skip wa (h_skip wa (h_skip wa (h_op (vB true) wz rfl (h_nil ?_)))))))))))))))))))
   obtain rfl:=some_inj h_5
   exact cu
  ·refine h_movb rfl hc_8 wz (h_op (vI d_2) wa rfl (h_far pl55_3 rfl 3 rfl wa (h_ldr 9 0 (.inr (by kernel_rfl)) (fun _ _ ag=>⟨.inl ⟨rfl,rfl⟩,⟨.inl ⟨rfl,rfl⟩,trivial⟩⟩) sz3 ag3 rfl rfl (vI e_1.First) rfl wa (h_op (vI (w64 (d_2 - e_1.First))) wa rfl (h_far pl55_5 rfl 5 rfl wa (h_ldr 12 0 (.inr (by kernel_rfl)) (fun _ _ ag=>⟨.inl ⟨rfl,rfl⟩,⟨.inl ⟨rfl,rfl⟩,⟨.inl ⟨rfl,rfl⟩,trivial⟩⟩⟩) sz3 ag3 rfl rfl (vI e_1.Every) rfl wa ?_))))))
   obtain ⟨q_9,hz_10,h_5⟩:=bind_some h_5
   refine h_rem rfl rfl hz_10 wa (h_op (vB (q_9 != 0)) wa rfl (h_op (vB (q_9 != 0)) wz rfl ?_))
   rcases cond_some h_5 with⟨hc_11,h_5⟩ | ⟨hc_11,h_5⟩
   ·refine h_movb rfl hc_11 wz (h_skip wa (h_skip wa (h_skip wa (h_skip wa (h_skip wa (h_skip wa (h_skip wa (h_op (vB true) wz rfl (h_nil ?_)))))))))
    obtain rfl:=some_inj h_5
    exact cu
   ·refine h_movb rfl hc_11 wz (h_far pl55_6 rfl 6 rfl wa (h_ldr 18 0 (.inr (by kernel_rfl)) (fun _ _ ag=>⟨.inl ⟨rfl,rfl⟩,⟨.inl ⟨rfl,rfl⟩,⟨.inl ⟨rfl,rfl⟩,⟨.inl ⟨rfl,rfl⟩,trivial⟩⟩⟩⟩) sz3 ag3 rfl rfl (vI e_1.Days) rfl wa (h_op (vI d_2) wa rfl (h_op (vI (d_2.tmod 7)) wa rfl ?_))))
    obtain ⟨q_12,hz_13,h_5⟩:=bind_some h_5
    refine h_shl rfl rfl hz_13 wa (h_op (vI (andI .i64 e_1.Days q_12)) wa rfl (h_op (vB ((andI .i64 e_1.Days q_12) == 0)) wa rfl (h_op (vB ((andI .i64 e_1.Days q_12) == 0)) wz rfl (h_nil ?_))))
    obtain rfl:=some_inj h_5
    exact cu
 ·rintro ⟨⟩ _ sl_ H_ hp_ hq_
  refine wH_at _ hp_ hq_ ?_
  rcases cond_some hF with⟨hc_14,hF⟩ | ⟨hc_14,hF⟩
  ·refine wH_ift rfl hc_14 (wH_seq (wH_region (h_op (vB false) wz rfl (h_nil ?_))))
   obtain rfl:=some_inj hF
   exact wH_ret (fin0 (.inr rfl) [(vB false)] ⟨rfl,trivial⟩ rfl rfl rfl)
  ·refine wH_iff rfl hc_14 (wH_skip (wH_seq (wH_region (h_far pl55_7 rfl 7 rfl wz (h_ldr 0 0 il ft sz22 ag22 rfl rfl (vL eI e_1.Except) rfl wz (h_op (vI d_2) wz rfl ?_))))))
   obtain ⟨r_15,hr_16,hF⟩:=bind_some hF
   refine h_call0 (slices_BinarySearch_int_int_ok hr_16) rfl hb106 rfl rfl rfl rfl wz (h_op (.tup [(vI r_15.1),(vB r_15.2)]) wz rfl (h_op (vI r_15.1) wz rfl (h_op (vB r_15.2) wz rfl (h_op (vI r_15.1) wz rfl (h_op (vB r_15.2) wz rfl (h_nil (wH_seq (wH_region (h_op (vB r_15.2) wz rfl (h_op (vB (!r_15.2)) wz rfl (h_op (vB (!r_15.2)) wz rfl (h_nil ?_))))))))))))
   obtain rfl:=some_inj hF
   exact wH_ret (fin0 (.inr rfl) [(vB (!r_15.2))] ⟨rfl,trivial⟩ rfl rfl rfl)
theorem schedule_timeOf_ok {e_1:Entry} {zone_2:Int} {d_3:Int} {r:Window} (hF:schedule_timeOf e_1 zone_2 d_3=some r) :
  FnM Tryz.prog 81 [(.d (.agg (Entry.enc e_1))),(vI zone_2),(vI d_3)] [] (.d (.agg (Window.enc r))) []:=by
 refine FnM.of_wH ⟨Tryz.prog,32,[],[]⟩ rfl Tryz.func81 rfl rfl (Nat.le_of_ble_eq_true rfl) (by kernel_rfl) ?_
 unfold schedule_timeOf at hF
 refine wH_seq (wH_region (h_box 0 (.inl rfl) [(vS e_1.Key),(vS e_1.Item),(vI e_1.Version),(vI e_1.First),(vI e_1.Last),(vI e_1.Every),(vI e_1.Days),(vL eI e_1.Except),(vI e_1.From),(vI e_1.To),(vI e_1.Prio),(vL eS e_1.Tags),(vB e_1.Gone)] rfl rfl wz (fun n_4=>h_alloc 0 (.inl rfl) z65 rfl wz (fun n_5=>h_nil (wH_seq (wH_region (h_far pl55_9 rfl 9 rfl wz (h_ldr 0 0 il ft sz3 ag3 rfl rfl (vI e_1.To) rfl wz (h_far pl55_8 rfl 8 rfl wz (h_ldr 0 0 il ft sz3 ag3 rfl rfl (vI e_1.From) rfl wz (h_op (vI (w64 (e_1.To - e_1.From))) wz rfl (h_op (vI (w64 (e_1.To - e_1.From))) wz rfl (h_nil (wH_seq (wH_seq (wH_region (h_op (vI (w64 (e_1.To - e_1.From))) wz rfl (h_op (vB (decide ((w64 (e_1.To - e_1.From))≤0))) wz rfl (h_nil ?_)))))))))))))))))))
 obtain ⟨v_6,h_7,hF⟩:=bind_some hF
 refine wH_join (β:=Unit) (fun _=>([(1,(vI zone_2)),(2,(vI d_3)),(3,(.ref n_4 0 0)),(6,(.ref n_5 0 0)),(7,(vI v_6))]:List (Nat×V))) (fun _=>([(n_4,some (.cells 13 [(vS e_1.Key),(vS e_1.Item),(vI e_1.Version),(vI e_1.First),(vI e_1.Last),(vI e_1.Every),(vI e_1.Days),(vL eI e_1.Except),(vI e_1.From),(vI e_1.To),(vI e_1.Prio),(vL eS e_1.Tags),(vB e_1.Gone)])),(n_5,some (.cells 2 [(vI 0),(vI 0)]))]:Hp)) (fun _=>True) ?_ ?_
 ·rcases cond_some h_7 with⟨hc_8,h_7⟩ | ⟨hc_8,h_7⟩
  ·refine wH_ift rfl hc_8 (wH_region (h_op (vI (w64 (e_1.To - e_1.From))) wz rfl (h_op (vI (w64 ((w64 (e_1.To - e_1.From)) + 1440))) wz rfl (h_op (vI (w64 ((w64 (e_1.To - e_1.From)) + 1440))) wz rfl (h_nil ?_)))))
   obtain rfl:=some_inj h_7
   exact cu
  ·refine wH_iff rfl hc_8 (wH_skip ?_)
   obtain rfl:=some_inj h_7
   exact cu
 ·rintro ⟨⟩ _ sl_ H_ hp_ hq_
  refine wH_at _ hp_ hq_ (wH_seq (wH_region (h_op (vI d_3) wz rfl (h_op (vI (w64 (d_3 * 1440))) wz rfl (h_far pl55_8 rfl 8 rfl wz (h_ldr 0 0 il ft sz3 ag3 rfl rfl (vI e_1.From) rfl wz (h_op (vI (w64 ((w64 (d_3 * 1440)) + e_1.From))) wz rfl (h_op (vI zone_2) wz rfl (h_op (vI (w64 ((w64 ((w64 (d_3 * 1440)) + e_1.From)) - zone_2))) wz rfl (h_op (vI (w64 ((w64 ((w64 ((w64 (d_3 * 1440)) + e_1.From)) - zone_2)) * 60000))) wz rfl (h_op (vI (w64 ((w64 ((w64 ((w64 (d_3 * 1440)) + e_1.From)) - zone_2)) * 60000))) wz rfl (h_nil (wH_seq (wH_region (h_op (vI (w64 ((w64 ((w64 ((w64 (d_3 * 1440)) + e_1.From)) - zone_2)) * 60000))) wz rfl (h_op (vI (w64 ((w64 ((w64 ((w64 (d_3 * 1440)) + e_1.From)) - zone_2)) * 60000))) wz rfl (h_op (vI v_6) wz rfl (h_op (vI (w64 (v_6 * 60000))) wz rfl (h_op (vI (w64 ((w64 ((w64 ((w64 ((w64 (d_3 * 1440)) + e_1.From)) - zone_2)) * 60000)) + (w64 (v_6 * 60000))))) wz rfl (h_op (.d (.agg (Window.enc (⟨(w64 ((w64 ((w64 ((w64 (d_3 * 1440)) + e_1.From)) - zone_2)) * 60000)),(w64 ((w64 ((w64 ((w64 ((w64 (d_3 * 1440)) + e_1.From)) - zone_2)) * 60000)) + (w64 (v_6 * 60000))))⟩:Window)))) wz (by kernel_rfl) (h_str 0 il ft 1 sz65 rfl rfl [(vI (w64 ((w64 ((w64 ((w64 (d_3 * 1440)) + e_1.From)) - zone_2)) * 60000))),(vI (w64 ((w64 ((w64 ((w64 ((w64 (d_3 * 1440)) + e_1.From)) - zone_2)) * 60000)) + (w64 (v_6 * 60000)))))] rfl wz (h_nil ?_))))))))))))))))))))))
  obtain rfl:=some_inj hF
  exact wH_ret (fin0 (.inr rfl) [(.d (.agg (Window.enc (⟨(w64 ((w64 ((w64 ((w64 (d_3 * 1440)) + e_1.From)) - zone_2)) * 60000)),(w64 ((w64 ((w64 ((w64 ((w64 (d_3 * 1440)) + e_1.From)) - zone_2)) * 60000)) + (w64 (v_6 * 60000))))⟩:Window))))] ⟨⟨1,_,_,_,_,_,_,_,rfl,rfl,sz65,ag65,rfl⟩,trivial⟩ rfl rfl rfl)
end Go.Proofs.YtjhcehhmdmbleaaGreat.Law

