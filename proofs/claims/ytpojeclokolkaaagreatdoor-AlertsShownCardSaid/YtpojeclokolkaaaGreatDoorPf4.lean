/-
 The machine computes these plain functions (written by a program of ours).
-/
import Derived.Test.YtpojeclokolkaaaGreatDoorFacts
import Derived.Test.YtpojeclokolkaaaGreatDoorDefs
import Derived.Test.YtpojeclokolkaaaGreatDoorPf3
import Derived.Test.YtpojeclokolkaaaGreatDoorShelf
open Go Go.Eng Go.Proofs
namespace Go.Proofs.YtpojeclokolkaaaGreatDoor.Law
set_option maxRecDepth 100000
set_option linter.unusedVariables false
set_option maxHeartbeats 1000000
theorem mk_Stream_Alerts_ok {s_1 : Stream} {most_2 : Int} {r : (List Alert) × Stream} (hF : mk_Stream_Alerts s_1 most_2 = some r) :
  FnM Tryz.prog 32 [(.ref (extN 0) 0 0), (vI most_2)] [(.cells 2 [(vL eI s_1.L), (vI s_1.f_at)])] (vL Alert.enc r.1) [some (.cells 2 [(vL eI r.2.L), (vI r.2.f_at)])] := by
 refine FnM.of_wH ⟨Tryz.prog, 99, [], []⟩ rfl Tryz.func32 rfl rfl (Nat.le_of_ble_eq_true rfl) (by kernel_rfl) ?_
 unfold mk_Stream_Alerts at hF
 refine wH_seq (wH_region (h_op .nil wz rfl (h_nil (wH_seq (wH_region (h_op (.ref (extN 0) 0 0) wz rfl (h_op (vI most_2) wz rfl ?_)))))))
 obtain ⟨r_3, hr_4, hF⟩ := bind_some hF
 refine h_callg [0] (mk_Stream_RightAlerts_okb hr_4) rfl hb28 rfl (by kernel_rfl) (by kernel_rfl) (by kernel_rfl) (by kernel_rfl) (by kernel_rfl) rfl (by decide) (by kernel_rfl) wz ([((extN 0), some (.cells 2 [(vL eI r_3.2.L), (vI r_3.2.f_at)]))] : Hp) (fun _ => by kernel_rfl) (fun n_6 => h_op (gV n_6 9 r_3.1) wz rfl (h_nil (wH_seq (wH_seq ?_))))
 obtain ⟨v_7, h_8, hF⟩ := bind_some hF
 refine wH_join (β := Unit) (fun _ => ([(0, (.ref (extN 0) 0 0)), (5, (gV n_6 9 r_3.1)), (16, (vB v_7.1))] : List (Nat × V))) (fun _ => ([((extN 0), some (.cells 2 [(vL eI v_7.2.1), (vI v_7.2.2)])), (n_6, gB 9 Alert.enc r_3.1)] : Hp)) (fun _ => True) ?_ ?_
 ·refine wH_region (h_op (gV n_6 9 r_3.1) wz rfl (h_leng un78 rfl wz (h_op (vB (decide ((r_3.1.length : Int) > 0))) wz rfl ?_)))
  rcases cond_some h_8 with ⟨hc_9, h_8⟩ | ⟨hc_9, h_8⟩
  ·refine h_movb rfl hc_9 wz (h_op (.ref (extN 0) 0 0) wa rfl ?_)
   obtain ⟨r_10, hr_11, h_8⟩ := bind_some h_8
   refine h_callq 0 [0] il ft (mk_Stream_Flip_ok hr_11) rfl hb56 rfl (by kernel_rfl) (by kernel_rfl) (by kernel_rfl) (by kernel_rfl) (by kernel_rfl) (by kernel_rfl) (by kernel_rfl) (by decide) (by kernel_rfl) wa (vB r_10.1) (by kernel_rfl) ([((extN 0), some (.cells 2 [(vL eI r_10.2.L), (vI r_10.2.f_at)])), (n_6, gB 9 Alert.enc r_3.1)] : Hp) (by kernel_rfl) (h_op (vB r_10.1) wz rfl (h_nil ?_))
   obtain rfl := some_inj h_8
   exact cu
  ·refine h_movb rfl hc_9 wz (h_skip wa (h_skip wa (h_op (vB false) wz rfl (h_nil ?_))))
   obtain rfl := some_inj h_8
   exact cu
 ·rintro ⟨⟩ _ sl_ H_ hp_ hq_
  refine wH_at _ hp_ hq_ ?_
  obtain ⟨v_13, h_14, hF⟩ := bind_some hF
  refine wH_join (β := Unit) (fun _ => ([(5, (gV n_6 9 v_13.1))] : List (Nat × V))) (fun _ => ([((extN 0), some (.cells 2 [(vL eI v_13.2.1), (vI v_13.2.2)])), (n_6, gB 9 Alert.enc v_13.1)] : Hp)) (fun _ => True) ?_ ?_
  ·rcases cond_some h_14 with ⟨hc_15, h_14⟩ | ⟨hc_15, h_14⟩
   ·refine wH_ift rfl hc_15 (wH_seq (wH_region (h_op (gV n_6 9 r_3.1) wz rfl (h_op (.ref (extN 0) 0 0) wz rfl (h_op (gV n_6 9 r_3.1) wz rfl (h_leng un78 rfl wz ?_))))))
    obtain ⟨r_16, hr_17, h_14⟩ := bind_some h_14
    refine h_callq 0 [0] il ft (mk_Stream_Next_ok hr_17) rfl hb84 rfl (by kernel_rfl) (by kernel_rfl) (by kernel_rfl) (by kernel_rfl) (by kernel_rfl) (by kernel_rfl) (by kernel_rfl) (by decide) (by kernel_rfl) wz (vI r_16.1) (by kernel_rfl) ([((extN 0), some (.cells 2 [(vL eI r_16.2.L), (vI r_16.2.f_at)])), (n_6, gB 9 Alert.enc r_3.1)] : Hp) (by kernel_rfl) ?_
    obtain ⟨_, hi_19, h_14⟩ := bind_some h_14
    refine h_iavg es78 rfl rfl (inR_0 hi_19) (inR_lt hi_19) wz (h_op (.ref n_6 (0 + (r_16.1).toNat) 0) wz rfl (h_nil (wH_seq (wH_region (h_op (.ref (extN 0) 0 0) wz rfl ?_)))))
    obtain ⟨r_20, hr_21, h_14⟩ := bind_some h_14
    refine h_callq 0 [0] il ft (mk_Stream_Next_ok hr_21) rfl hb84 rfl (by kernel_rfl) (by kernel_rfl) (by kernel_rfl) (by kernel_rfl) (by kernel_rfl) (by kernel_rfl) (by kernel_rfl) (by decide) (by kernel_rfl) wz (vI r_20.1) (by kernel_rfl) ([((extN 0), some (.cells 2 [(vL eI r_20.2.L), (vI r_20.2.f_at)])), (n_6, gB 9 Alert.enc r_3.1)] : Hp) (by kernel_rfl) (h_nil (wH_block (wH_seq (wH_region (h_op (vB (r_20.1 == 0)) wz rfl (h_op (vB (r_20.1 == 0)) wz rfl (h_nil ?_)))))))
    rcases cond_some h_14 with ⟨hc_23, h_14⟩ | ⟨hc_23, h_14⟩
    ·refine wH_ift rfl hc_23 (wH_region (h_op (.ref n_6 (0 + (r_16.1).toNat) 0) wz rfl (h_op (.ref n_6 (0 + (r_16.1).toNat) 0) wz rfl (h_op (.ref (extN 0) 0 0) wz rfl (h_op (.ref n_6 (0 + (r_16.1).toNat) 0) wz rfl (h_op (.ref n_6 (0 + (r_16.1).toNat) 0) wz rfl (h_far pl82_0 rfl 0 rfl wz ?_)))))))
     obtain ⟨e_24, hy_25, h_14⟩ := bind_some h_14
     refine h_ldvg 0 1 il ft sz9 ag9 rfl rfl hy_25 (vS e_24.Id) rfl wz (h_lit (([e_24.Id, (⟨#[]⟩ : ByteArray), (⟨#[97, 97]⟩ : ByteArray)] : List ByteArray).map eS) es80 ez80 rfl rfl rfl rfl rfl wz ?_)
     obtain ⟨r_26, hr_27, h_14⟩ := bind_some h_14
     refine h_callq 0 [0] il ft (mk_Stream_Some_ok hr_27) rfl hb70 rfl (by kernel_rfl) (by kernel_rfl) (by kernel_rfl) (by kernel_rfl) (by kernel_rfl) (by kernel_rfl) (by kernel_rfl) (by decide) (by kernel_rfl) wz (vS r_26.1) (by kernel_rfl) ([((extN 0), some (.cells 2 [(vL eI r_26.2.L), (vI r_26.2.f_at)])), (n_6, gB 9 Alert.enc r_3.1)] : Hp) (by kernel_rfl) (h_op (.ref (extN 0) 0 0) wz rfl (h_lit (([(⟨#[119, 120]⟩ : ByteArray), (⟨#[65]⟩ : ByteArray)] : List ByteArray).map eS) es80 ez80 rfl rfl rfl rfl rfl wz ?_))
     obtain ⟨r_29, hr_30, h_14⟩ := bind_some h_14
     refine h_callq 0 [0] il ft (mk_Stream_Some_ok hr_30) rfl hb70 rfl (by kernel_rfl) (by kernel_rfl) (by kernel_rfl) (by kernel_rfl) (by kernel_rfl) (by kernel_rfl) (by kernel_rfl) (by decide) (by kernel_rfl) wz (vS r_29.1) (by kernel_rfl) ([((extN 0), some (.cells 2 [(vL eI r_29.2.L), (vI r_29.2.f_at)])), (n_6, gB 9 Alert.enc r_3.1)] : Hp) (by kernel_rfl) (h_op (.ref n_6 (0 + (r_16.1).toNat) 0) wz rfl (h_far pl82_0 rfl 0 rfl wz ?_))
     obtain ⟨e_32, hy_33, h_14⟩ := bind_some h_14
     refine h_stvg 0 il ft 1 sz9 rfl rfl hy_33 (⟨r_26.1, e_32.Sender, e_32.Kind, e_32.Refs, e_32.At, e_32.Until, e_32.Weight, e_32.Areas, e_32.Text⟩ : Alert) rfl wz (h_re (v' := (gV n_6 9 (r_3.1.set (0 + (r_16.1).toNat) (⟨r_26.1, e_32.Sender, e_32.Kind, e_32.Refs, e_32.At, e_32.Until, e_32.Weight, e_32.Areas, e_32.Text⟩ : Alert)))) 5 rfl (gV_len (by simp)) (h_re (v' := (gV n_6 9 (r_3.1.set (0 + (r_16.1).toNat) (⟨r_26.1, e_32.Sender, e_32.Kind, e_32.Refs, e_32.At, e_32.Until, e_32.Weight, e_32.Areas, e_32.Text⟩ : Alert)))) 17 rfl (gV_len (by simp)) (h_re (v' := (gV n_6 9 (r_3.1.set (0 + (r_16.1).toNat) (⟨r_26.1, e_32.Sender, e_32.Kind, e_32.Refs, e_32.At, e_32.Until, e_32.Weight, e_32.Areas, e_32.Text⟩ : Alert)))) 19 rfl (gV_len (by simp)) (h_op (.ref n_6 (0 + (r_16.1).toNat) 0) wz rfl (h_far pl82_1 rfl 1 rfl wz ?_)))))
     obtain ⟨e_34, hy_35, h_14⟩ := bind_some h_14
     refine h_stvg 0 il ft 1 sz9 rfl rfl hy_35 (⟨e_34.Id, r_29.1, e_34.Kind, e_34.Refs, e_34.At, e_34.Until, e_34.Weight, e_34.Areas, e_34.Text⟩ : Alert) rfl wz (h_re (v' := (gV n_6 9 ((r_3.1.set (0 + (r_16.1).toNat) (⟨r_26.1, e_32.Sender, e_32.Kind, e_32.Refs, e_32.At, e_32.Until, e_32.Weight, e_32.Areas, e_32.Text⟩ : Alert)).set (0 + (r_16.1).toNat) (⟨e_34.Id, r_29.1, e_34.Kind, e_34.Refs, e_34.At, e_34.Until, e_34.Weight, e_34.Areas, e_34.Text⟩ : Alert)))) 5 rfl (gV_len (by simp)) (h_re (v' := (gV n_6 9 ((r_3.1.set (0 + (r_16.1).toNat) (⟨r_26.1, e_32.Sender, e_32.Kind, e_32.Refs, e_32.At, e_32.Until, e_32.Weight, e_32.Areas, e_32.Text⟩ : Alert)).set (0 + (r_16.1).toNat) (⟨e_34.Id, r_29.1, e_34.Kind, e_34.Refs, e_34.At, e_34.Until, e_34.Weight, e_34.Areas, e_34.Text⟩ : Alert)))) 17 rfl (gV_len (by simp)) (h_re (v' := (gV n_6 9 ((r_3.1.set (0 + (r_16.1).toNat) (⟨r_26.1, e_32.Sender, e_32.Kind, e_32.Refs, e_32.At, e_32.Until, e_32.Weight, e_32.Areas, e_32.Text⟩ : Alert)).set (0 + (r_16.1).toNat) (⟨e_34.Id, r_29.1, e_34.Kind, e_34.Refs, e_34.At, e_34.Until, e_34.Weight, e_34.Areas, e_34.Text⟩ : Alert)))) 19 rfl (gV_len (by simp)) (h_nil ?_))))
     obtain rfl := some_inj h_14
     exact cu
    ·refine wH_iff rfl hc_23 (wH_seq (wH_region (h_op (vB (r_20.1 == 1)) wz rfl (h_op (vB (r_20.1 == 1)) wz rfl (h_nil ?_)))))
     rcases cond_some h_14 with ⟨hc_36, h_14⟩ | ⟨hc_36, h_14⟩
     ·refine wH_ift rfl hc_36 (wH_region (h_op (.ref n_6 (0 + (r_16.1).toNat) 0) wz rfl (h_op (.ref (extN 0) 0 0) wz rfl ?_)))
      obtain ⟨r_37, hr_38, h_14⟩ := bind_some h_14
      refine h_callq 0 [0] il ft (mk_Stream_Odd_ok hr_38) rfl hb114 rfl (by kernel_rfl) (by kernel_rfl) (by kernel_rfl) (by kernel_rfl) (by kernel_rfl) (by kernel_rfl) (by kernel_rfl) (by decide) (by kernel_rfl) wz (vI r_37.1) (by kernel_rfl) ([((extN 0), some (.cells 2 [(vL eI r_37.2.L), (vI r_37.2.f_at)])), (n_6, gB 9 Alert.enc r_3.1)] : Hp) (by kernel_rfl) (h_op (.ref n_6 (0 + (r_16.1).toNat) 0) wz rfl (h_far pl82_2 rfl 2 rfl wz ?_))
      obtain ⟨e_40, hy_41, h_14⟩ := bind_some h_14
      refine h_stvg 0 il ft 1 sz3 rfl rfl hy_41 (⟨e_40.Id, e_40.Sender, r_37.1, e_40.Refs, e_40.At, e_40.Until, e_40.Weight, e_40.Areas, e_40.Text⟩ : Alert) rfl wz (h_re (v' := (gV n_6 9 (r_3.1.set (0 + (r_16.1).toNat) (⟨e_40.Id, e_40.Sender, r_37.1, e_40.Refs, e_40.At, e_40.Until, e_40.Weight, e_40.Areas, e_40.Text⟩ : Alert)))) 5 rfl (gV_len (by simp)) (h_re (v' := (gV n_6 9 (r_3.1.set (0 + (r_16.1).toNat) (⟨e_40.Id, e_40.Sender, r_37.1, e_40.Refs, e_40.At, e_40.Until, e_40.Weight, e_40.Areas, e_40.Text⟩ : Alert)))) 17 rfl (gV_len (by simp)) (h_re (v' := (gV n_6 9 (r_3.1.set (0 + (r_16.1).toNat) (⟨e_40.Id, e_40.Sender, r_37.1, e_40.Refs, e_40.At, e_40.Until, e_40.Weight, e_40.Areas, e_40.Text⟩ : Alert)))) 19 rfl (gV_len (by simp)) (h_nil ?_))))
      obtain rfl := some_inj h_14
      exact cu
     ·refine wH_iff rfl hc_36 (wH_seq (wH_region (h_op (vB (r_20.1 == 2)) wz rfl (h_op (vB (r_20.1 == 2)) wz rfl (h_nil ?_)))))
      rcases cond_some h_14 with ⟨hc_42, h_14⟩ | ⟨hc_42, h_14⟩
      ·refine wH_ift rfl hc_42 (wH_draws (h_op (.ref n_6 (0 + (r_16.1).toNat) 0) wz rfl (h_lit (([(⟨#[97, 98]⟩ : ByteArray), (⟨#[97, 97]⟩ : ByteArray)] : List ByteArray).map eS) es80 ez80 rfl rfl rfl rfl rfl wz (h_op (.ref n_6 (0 + (r_16.1).toNat) 0) wz rfl (h_op (.ref n_6 (0 + (r_16.1).toNat) 0) wz rfl (h_far pl82_0 rfl 0 rfl wz ?_))))))
       obtain ⟨e_43, hy_44, h_14⟩ := bind_some h_14
       refine h_ldvg 5 1 (.inr (by kernel_rfl)) (fun _ _ ag => trivial) sz9 ag9 rfl rfl hy_44 (vS e_43.Id) rfl wz (h_lit (([e_43.Id] : List ByteArray).map eS) es80 ez80 rfl rfl rfl rfl rfl wz (h_lit (([(⟨#[65]⟩ : ByteArray)] : List ByteArray).map eS) es80 ez80 rfl rfl rfl rfl rfl wz (h_lit (([(⟨#[97, 97]⟩ : ByteArray), (⟨#[122, 122]⟩ : ByteArray)] : List ByteArray).map eS) es80 ez80 rfl rfl rfl rfl rfl wz (h_lit (([([] : List ByteArray), ([(⟨#[97, 98]⟩ : ByteArray), (⟨#[97, 97]⟩ : ByteArray)] : List ByteArray), ([e_43.Id] : List ByteArray), ([(⟨#[65]⟩ : ByteArray)] : List ByteArray), ([(⟨#[97, 97]⟩ : ByteArray), (⟨#[122, 122]⟩ : ByteArray)] : List ByteArray)] : List (List ByteArray)).map (eL eS)) es201 ez201 rfl rfl rfl rfl rfl wz (h_op (.ref (extN 0) 0 0) wz rfl ?_)))))
       obtain ⟨r_45, hr_46, h_14⟩ := bind_some h_14
       refine h_callq 11 [0] (.inr (by kernel_rfl)) (fun _ _ ag => by exact ⟨.inr (.inl (dis1 (ag_ne ag (i := 0) (j := 1) rfl rfl (by decide)))), trivial⟩) (mk_Stream_Next_ok hr_46) rfl hb84 rfl (by kernel_rfl) (by kernel_rfl) (by kernel_rfl) (by kernel_rfl) (by kernel_rfl) (by kernel_rfl) (by kernel_rfl) (by decide) (by kernel_rfl) wz (vI r_45.1) (by kernel_rfl) ([((extN 0), some (.cells 2 [(vL eI r_45.2.L), (vI r_45.2.f_at)])), (n_6, gB 9 Alert.enc r_3.1)] : Hp) (by kernel_rfl) ?_
       obtain ⟨y_48, hy_49, h_14⟩ := bind_some h_14
       refine h_ia es201 rfl rfl hy_49 rfl wz (h_ldc sz80 ag80 rfl (vL eS y_48) rfl wz (h_op (.ref n_6 (0 + (r_16.1).toNat) 0) wz rfl (h_far pl82_3 rfl 3 rfl wz ?_)))
       obtain ⟨e_50, hy_51, h_14⟩ := bind_some h_14
       refine h_stvg 16 (.inr (by kernel_rfl)) (fun _ _ ag => ⟨.inr (.inr (by kernel_rfl)), ⟨.inr (.inr (by kernel_rfl)), trivial⟩⟩) 1 sz80 rfl rfl hy_51 (⟨e_50.Id, e_50.Sender, e_50.Kind, y_48, e_50.At, e_50.Until, e_50.Weight, e_50.Areas, e_50.Text⟩ : Alert) rfl wz (h_re (v' := (gV n_6 9 (r_3.1.set (0 + (r_16.1).toNat) (⟨e_50.Id, e_50.Sender, e_50.Kind, y_48, e_50.At, e_50.Until, e_50.Weight, e_50.Areas, e_50.Text⟩ : Alert)))) 5 rfl (gV_len (by simp)) (h_re (v' := (gV n_6 9 (r_3.1.set (0 + (r_16.1).toNat) (⟨e_50.Id, e_50.Sender, e_50.Kind, y_48, e_50.At, e_50.Until, e_50.Weight, e_50.Areas, e_50.Text⟩ : Alert)))) 17 rfl (gV_len (by simp)) (h_re (v' := (gV n_6 9 (r_3.1.set (0 + (r_16.1).toNat) (⟨e_50.Id, e_50.Sender, e_50.Kind, y_48, e_50.At, e_50.Until, e_50.Weight, e_50.Areas, e_50.Text⟩ : Alert)))) 19 rfl (gV_len (by simp)) (h_nil ?_))))
       obtain rfl := some_inj h_14
       exact cu
      ·refine wH_iff rfl hc_42 (wH_seq (wH_region (h_op (vB (r_20.1 == 3)) wz rfl (h_op (vB (r_20.1 == 3)) wz rfl (h_nil ?_)))))
       rcases cond_some h_14 with ⟨hc_52, h_14⟩ | ⟨hc_52, h_14⟩
       ·refine wH_ift rfl hc_52 (wH_region (h_op (.ref n_6 (0 + (r_16.1).toNat) 0) wz rfl (h_op (.ref n_6 (0 + (r_16.1).toNat) 0) wz rfl (h_op (.ref (extN 0) 0 0) wz rfl ?_))))
        obtain ⟨r_53, hr_54, h_14⟩ := bind_some h_14
        refine h_callq 0 [0] il ft (mk_Stream_Odd_ok hr_54) rfl hb114 rfl (by kernel_rfl) (by kernel_rfl) (by kernel_rfl) (by kernel_rfl) (by kernel_rfl) (by kernel_rfl) (by kernel_rfl) (by decide) (by kernel_rfl) wz (vI r_53.1) (by kernel_rfl) ([((extN 0), some (.cells 2 [(vL eI r_53.2.L), (vI r_53.2.f_at)])), (n_6, gB 9 Alert.enc r_3.1)] : Hp) (by kernel_rfl) (h_op (.ref (extN 0) 0 0) wz rfl ?_)
        obtain ⟨r_56, hr_57, h_14⟩ := bind_some h_14
        refine h_callq 0 [0] il ft (mk_Stream_Odd_ok hr_57) rfl hb114 rfl (by kernel_rfl) (by kernel_rfl) (by kernel_rfl) (by kernel_rfl) (by kernel_rfl) (by kernel_rfl) (by kernel_rfl) (by decide) (by kernel_rfl) wz (vI r_56.1) (by kernel_rfl) ([((extN 0), some (.cells 2 [(vL eI r_56.2.L), (vI r_56.2.f_at)])), (n_6, gB 9 Alert.enc r_3.1)] : Hp) (by kernel_rfl) (h_op (.ref n_6 (0 + (r_16.1).toNat) 0) wz rfl (h_far pl82_4 rfl 4 rfl wz ?_))
        obtain ⟨e_59, hy_60, h_14⟩ := bind_some h_14
        refine h_stvg 0 il ft 1 sz3 rfl rfl hy_60 (⟨e_59.Id, e_59.Sender, e_59.Kind, e_59.Refs, r_53.1, e_59.Until, e_59.Weight, e_59.Areas, e_59.Text⟩ : Alert) rfl wz (h_re (v' := (gV n_6 9 (r_3.1.set (0 + (r_16.1).toNat) (⟨e_59.Id, e_59.Sender, e_59.Kind, e_59.Refs, r_53.1, e_59.Until, e_59.Weight, e_59.Areas, e_59.Text⟩ : Alert)))) 5 rfl (gV_len (by simp)) (h_re (v' := (gV n_6 9 (r_3.1.set (0 + (r_16.1).toNat) (⟨e_59.Id, e_59.Sender, e_59.Kind, e_59.Refs, r_53.1, e_59.Until, e_59.Weight, e_59.Areas, e_59.Text⟩ : Alert)))) 17 rfl (gV_len (by simp)) (h_re (v' := (gV n_6 9 (r_3.1.set (0 + (r_16.1).toNat) (⟨e_59.Id, e_59.Sender, e_59.Kind, e_59.Refs, r_53.1, e_59.Until, e_59.Weight, e_59.Areas, e_59.Text⟩ : Alert)))) 19 rfl (gV_len (by simp)) (h_op (.ref n_6 (0 + (r_16.1).toNat) 0) wz rfl (h_far pl82_5 rfl 5 rfl wz ?_)))))
        obtain ⟨e_61, hy_62, h_14⟩ := bind_some h_14
        refine h_stvg 0 il ft 1 sz3 rfl rfl hy_62 (⟨e_61.Id, e_61.Sender, e_61.Kind, e_61.Refs, e_61.At, r_56.1, e_61.Weight, e_61.Areas, e_61.Text⟩ : Alert) rfl wz (h_re (v' := (gV n_6 9 ((r_3.1.set (0 + (r_16.1).toNat) (⟨e_59.Id, e_59.Sender, e_59.Kind, e_59.Refs, r_53.1, e_59.Until, e_59.Weight, e_59.Areas, e_59.Text⟩ : Alert)).set (0 + (r_16.1).toNat) (⟨e_61.Id, e_61.Sender, e_61.Kind, e_61.Refs, e_61.At, r_56.1, e_61.Weight, e_61.Areas, e_61.Text⟩ : Alert)))) 5 rfl (gV_len (by simp)) (h_re (v' := (gV n_6 9 ((r_3.1.set (0 + (r_16.1).toNat) (⟨e_59.Id, e_59.Sender, e_59.Kind, e_59.Refs, r_53.1, e_59.Until, e_59.Weight, e_59.Areas, e_59.Text⟩ : Alert)).set (0 + (r_16.1).toNat) (⟨e_61.Id, e_61.Sender, e_61.Kind, e_61.Refs, e_61.At, r_56.1, e_61.Weight, e_61.Areas, e_61.Text⟩ : Alert)))) 17 rfl (gV_len (by simp)) (h_re (v' := (gV n_6 9 ((r_3.1.set (0 + (r_16.1).toNat) (⟨e_59.Id, e_59.Sender, e_59.Kind, e_59.Refs, r_53.1, e_59.Until, e_59.Weight, e_59.Areas, e_59.Text⟩ : Alert)).set (0 + (r_16.1).toNat) (⟨e_61.Id, e_61.Sender, e_61.Kind, e_61.Refs, e_61.At, r_56.1, e_61.Weight, e_61.Areas, e_61.Text⟩ : Alert)))) 19 rfl (gV_len (by simp)) (h_nil ?_))))
        obtain rfl := some_inj h_14
        exact cu
       ·refine wH_iff rfl hc_52 (wH_seq (wH_region (h_op (vB (r_20.1 == 4)) wz rfl (h_op (vB (r_20.1 == 4)) wz rfl (h_nil ?_)))))
        rcases cond_some h_14 with ⟨hc_63, h_14⟩ | ⟨hc_63, h_14⟩
        ·refine wH_ift rfl hc_63 (wH_region (h_op (.ref n_6 (0 + (r_16.1).toNat) 0) wz rfl (h_op (.ref n_6 (0 + (r_16.1).toNat) 0) wz rfl (h_op (.ref (extN 0) 0 0) wz rfl ?_))))
         obtain ⟨r_64, hr_65, h_14⟩ := bind_some h_14
         refine h_callq 0 [0] il ft (mk_Stream_Rects_ok hr_65) rfl hb115 rfl (by kernel_rfl) (by kernel_rfl) (by kernel_rfl) (by kernel_rfl) (by kernel_rfl) (by kernel_rfl) (by kernel_rfl) (by decide) (by kernel_rfl) wz (vL Rect.enc r_64.1) (by kernel_rfl) ([((extN 0), some (.cells 2 [(vL eI r_64.2.L), (vI r_64.2.f_at)])), (n_6, gB 9 Alert.enc r_3.1)] : Hp) (by kernel_rfl) (h_op (.ref (extN 0) 0 0) wz rfl ?_)
         obtain ⟨r_67, hr_68, h_14⟩ := bind_some h_14
         refine h_callq 0 [0] il ft (mk_Stream_Odd_ok hr_68) rfl hb114 rfl (by kernel_rfl) (by kernel_rfl) (by kernel_rfl) (by kernel_rfl) (by kernel_rfl) (by kernel_rfl) (by kernel_rfl) (by decide) (by kernel_rfl) wz (vI r_67.1) (by kernel_rfl) ([((extN 0), some (.cells 2 [(vL eI r_67.2.L), (vI r_67.2.f_at)])), (n_6, gB 9 Alert.enc r_3.1)] : Hp) (by kernel_rfl) (h_op (.ref n_6 (0 + (r_16.1).toNat) 0) wz rfl (h_far pl82_7 rfl 7 rfl wz ?_))
         obtain ⟨e_70, hy_71, h_14⟩ := bind_some h_14
         refine h_stvg 0 il ft 1 sz50 rfl rfl hy_71 (⟨e_70.Id, e_70.Sender, e_70.Kind, e_70.Refs, e_70.At, e_70.Until, e_70.Weight, r_64.1, e_70.Text⟩ : Alert) rfl wz (h_re (v' := (gV n_6 9 (r_3.1.set (0 + (r_16.1).toNat) (⟨e_70.Id, e_70.Sender, e_70.Kind, e_70.Refs, e_70.At, e_70.Until, e_70.Weight, r_64.1, e_70.Text⟩ : Alert)))) 5 rfl (gV_len (by simp)) (h_re (v' := (gV n_6 9 (r_3.1.set (0 + (r_16.1).toNat) (⟨e_70.Id, e_70.Sender, e_70.Kind, e_70.Refs, e_70.At, e_70.Until, e_70.Weight, r_64.1, e_70.Text⟩ : Alert)))) 17 rfl (gV_len (by simp)) (h_re (v' := (gV n_6 9 (r_3.1.set (0 + (r_16.1).toNat) (⟨e_70.Id, e_70.Sender, e_70.Kind, e_70.Refs, e_70.At, e_70.Until, e_70.Weight, r_64.1, e_70.Text⟩ : Alert)))) 19 rfl (gV_len (by simp)) (h_op (.ref n_6 (0 + (r_16.1).toNat) 0) wz rfl (h_far pl82_6 rfl 6 rfl wz ?_)))))
         obtain ⟨e_72, hy_73, h_14⟩ := bind_some h_14
         refine h_stvg 0 il ft 1 sz3 rfl rfl hy_73 (⟨e_72.Id, e_72.Sender, e_72.Kind, e_72.Refs, e_72.At, e_72.Until, r_67.1, e_72.Areas, e_72.Text⟩ : Alert) rfl wz (h_re (v' := (gV n_6 9 ((r_3.1.set (0 + (r_16.1).toNat) (⟨e_70.Id, e_70.Sender, e_70.Kind, e_70.Refs, e_70.At, e_70.Until, e_70.Weight, r_64.1, e_70.Text⟩ : Alert)).set (0 + (r_16.1).toNat) (⟨e_72.Id, e_72.Sender, e_72.Kind, e_72.Refs, e_72.At, e_72.Until, r_67.1, e_72.Areas, e_72.Text⟩ : Alert)))) 5 rfl (gV_len (by simp)) (h_re (v' := (gV n_6 9 ((r_3.1.set (0 + (r_16.1).toNat) (⟨e_70.Id, e_70.Sender, e_70.Kind, e_70.Refs, e_70.At, e_70.Until, e_70.Weight, r_64.1, e_70.Text⟩ : Alert)).set (0 + (r_16.1).toNat) (⟨e_72.Id, e_72.Sender, e_72.Kind, e_72.Refs, e_72.At, e_72.Until, r_67.1, e_72.Areas, e_72.Text⟩ : Alert)))) 17 rfl (gV_len (by simp)) (h_re (v' := (gV n_6 9 ((r_3.1.set (0 + (r_16.1).toNat) (⟨e_70.Id, e_70.Sender, e_70.Kind, e_70.Refs, e_70.At, e_70.Until, e_70.Weight, r_64.1, e_70.Text⟩ : Alert)).set (0 + (r_16.1).toNat) (⟨e_72.Id, e_72.Sender, e_72.Kind, e_72.Refs, e_72.At, e_72.Until, r_67.1, e_72.Areas, e_72.Text⟩ : Alert)))) 19 rfl (gV_len (by simp)) (h_nil ?_))))
         obtain rfl := some_inj h_14
         exact cu
        ·refine wH_iff rfl hc_63 (wH_region (h_op (.ref n_6 (0 + (r_16.1).toNat) 0) wz rfl (h_op (.ref (extN 0) 0 0) wz rfl (h_lit (([(⟨#[]⟩ : ByteArray), (⟨#[32, 120]⟩ : ByteArray), (⟨#[97, 32, 32, 98]⟩ : ByteArray), (⟨#[10]⟩ : ByteArray), (⟨#[255]⟩ : ByteArray)] : List ByteArray).map eS) es80 ez80 rfl rfl rfl rfl rfl wz ?_))))
         obtain ⟨r_74, hr_75, h_14⟩ := bind_some h_14
         refine h_callq 0 [0] il ft (mk_Stream_Some_ok hr_75) rfl hb70 rfl (by kernel_rfl) (by kernel_rfl) (by kernel_rfl) (by kernel_rfl) (by kernel_rfl) (by kernel_rfl) (by kernel_rfl) (by decide) (by kernel_rfl) wz (vS r_74.1) (by kernel_rfl) ([((extN 0), some (.cells 2 [(vL eI r_74.2.L), (vI r_74.2.f_at)])), (n_6, gB 9 Alert.enc r_3.1)] : Hp) (by kernel_rfl) (h_op (.ref n_6 (0 + (r_16.1).toNat) 0) wz rfl (h_far pl82_8 rfl 8 rfl wz ?_))
         obtain ⟨e_77, hy_78, h_14⟩ := bind_some h_14
         refine h_stvg 0 il ft 1 sz9 rfl rfl hy_78 (⟨e_77.Id, e_77.Sender, e_77.Kind, e_77.Refs, e_77.At, e_77.Until, e_77.Weight, e_77.Areas, r_74.1⟩ : Alert) rfl wz (h_re (v' := (gV n_6 9 (r_3.1.set (0 + (r_16.1).toNat) (⟨e_77.Id, e_77.Sender, e_77.Kind, e_77.Refs, e_77.At, e_77.Until, e_77.Weight, e_77.Areas, r_74.1⟩ : Alert)))) 5 rfl (gV_len (by simp)) (h_re (v' := (gV n_6 9 (r_3.1.set (0 + (r_16.1).toNat) (⟨e_77.Id, e_77.Sender, e_77.Kind, e_77.Refs, e_77.At, e_77.Until, e_77.Weight, e_77.Areas, r_74.1⟩ : Alert)))) 17 rfl (gV_len (by simp)) (h_re (v' := (gV n_6 9 (r_3.1.set (0 + (r_16.1).toNat) (⟨e_77.Id, e_77.Sender, e_77.Kind, e_77.Refs, e_77.At, e_77.Until, e_77.Weight, e_77.Areas, r_74.1⟩ : Alert)))) 19 rfl (gV_len (by simp)) (h_nil ?_))))
         obtain rfl := some_inj h_14
         exact cu
   ·refine wH_iff rfl hc_15 (wH_skip ?_)
    obtain rfl := some_inj h_14
    exact cu
  ·rintro ⟨⟩ _ sl_ H_ hp_ hq_
   refine wH_at _ hp_ hq_ (wH_seq (wH_region (h_op (gV n_6 9 v_13.1) wz rfl (h_op (gV n_6 9 v_13.1) wz rfl (h_nil (wH_frozg 1 rfl (wH_cog 4 1 rfl rfl (wH_cog 5 1 rfl rfl (wH_cog 98 1 rfl rfl ?_)))))))))
   obtain rfl := some_inj hF
   exact wH_ret (finB (.inr rfl) [(vL Alert.enc v_13.1)] _ [0] [extN 0] ⟨rfl, trivial⟩ (.cons (co_data rfl rfl) (.nil)) (by kernel_rfl) ⟨(by kernel_rfl), trivial⟩ (by decide) (by kernel_rfl))
theorem mk_Stream_RightPosts_okb {s_1 : Stream} {r : (List Post) × Stream} (hF : mk_Stream_RightPosts s_1 = some r) :
  FnM Tryz.prog 55 [(.ref (extN 0) 0 0)] [(.cells 2 [(vL eI s_1.L), (vI s_1.f_at)])] (gV (extN 1) 3 r.1) (([(.cells 2 [(vL eI r.2.L), (vI r.2.f_at)])] : List Box).map some ++ gO 3 Post.enc r.1) := by
 refine FnM.of_wH ⟨Tryz.prog, 26, [], []⟩ rfl Tryz.func55 rfl rfl (Nat.le_of_ble_eq_true rfl) (by kernel_rfl) ?_
 unfold mk_Stream_RightPosts at hF
 refine wH_seq (wH_region (h_op .nil wz rfl (h_nil (wH_seq (wH_region (h_op .nil wz rfl (h_nil (wH_seq (wH_seq (wH_region (h_lit (([(⟨#[112, 97]⟩ : ByteArray), (⟨#[112, 98]⟩ : ByteArray), (⟨#[112, 99]⟩ : ByteArray)] : List ByteArray).map eS) es80 ez80 rfl rfl rfl rfl rfl wz (h_len un80 rfl wz (h_op (vI 0) wz rfl (h_nil (wH_new (fun n_8 => ?_))))))))))))))))
 obtain ⟨o_13, hj_14, hF⟩ := bind_some hF
 obtain ⟨hn_6, hj_14⟩ := forL_some hj_14
 refine wH_join (β := ((List Post) × (List Int) × Int) × Nm) (fun p => (fun (s_7 : (List Post) × (List Int) × Int) (n_10 : Nm) => ([(3, (gV n_10 3 s_7.1))] : List (Nat × V))) p.1 p.2) (fun p => (fun (s_7 : (List Post) × (List Int) × Int) (n_10 : Nm) => ([((extN 0), some (.cells 2 [(vL eI s_7.2.1), (vI s_7.2.2)])), (n_10, gB 3 Post.enc s_7.1)] : Hp)) p.1 p.2) (fun p => o_13 = .go p.1) ?_ ?_
 ·refine wH_block (wH_loop (β := Nat × (List ByteArray) × ((List Post) × (List Int) × Int) × Nm) (fun p => (fun (k_2 : Nat) (l_3 : List ByteArray) (s_7 : (List Post) × (List Int) × Int) (n_10 : Nm) => ([(0, (.ref (extN 0) 0 0)), (3, (gV n_10 3 s_7.1)), (6, (vL eS ([(⟨#[112, 97]⟩ : ByteArray), (⟨#[112, 98]⟩ : ByteArray), (⟨#[112, 99]⟩ : ByteArray)] : List ByteArray))), (7, (vI (([(⟨#[112, 97]⟩ : ByteArray), (⟨#[112, 98]⟩ : ByteArray), (⟨#[112, 99]⟩ : ByteArray)] : List ByteArray).length : Int))), (8, (vI (k_2 : Int)))] : List (Nat × V))) p.1 p.2.1 p.2.2.1 p.2.2.2) (fun p => (fun (k_2 : Nat) (l_3 : List ByteArray) (s_7 : (List Post) × (List Int) × Int) (n_10 : Nm) => ([((extN 0), some (.cells 2 [(vL eI s_7.2.1), (vI s_7.2.2)])), (n_10, gB 3 Post.enc s_7.1)] : Hp)) p.1 p.2.1 p.2.2.1 p.2.2.2) (fun p => forR (fun k x s => mk_Stream_RightPosts_L1 k x s) p.2.1 p.1 p.2.2.1 = some o_13 ∧ (([(⟨#[112, 97]⟩ : ByteArray), (⟨#[112, 98]⟩ : ByteArray), (⟨#[112, 99]⟩ : ByteArray)] : List ByteArray)).drop p.1 = p.2.1) (fun p => p.2.1.length) (0, ([(⟨#[112, 97]⟩ : ByteArray), (⟨#[112, 98]⟩ : ByteArray), (⟨#[112, 99]⟩ : ByteArray)] : List ByteArray), (([] : List Post), s_1.L, s_1.f_at), n_8) ⟨hj_14, rfl⟩ rfl (pre_r rfl) ?_)
  rintro ⟨k_2, l_3, s_7, n_10⟩ ⟨hL_12, hD_5⟩
  dsimp only at hL_12 hD_5
  cases l_3 with
  | nil =>
   obtain rfl := some_inj hL_12
   refine wH_seq (wH_region (h_op (vB (decide ((k_2 : Int) < (([(⟨#[112, 97]⟩ : ByteArray), (⟨#[112, 98]⟩ : ByteArray), (⟨#[112, 99]⟩ : ByteArray)] : List ByteArray).length : Int)))) wz rfl (h_nil ?_)))
   refine wH_seq (wH_iff rfl (drop_nil hD_5) (wH_exit ?_))
   exact cut_mk (s_7, n_10) rfl rfl (pre_r rfl)
  | cons x_4 l_3 =>
   obtain ⟨c_, hc_11, hL_12⟩ := bind_some hL_12
   refine wH_seq (wH_region (h_op (vB (decide ((k_2 : Int) < (([(⟨#[112, 97]⟩ : ByteArray), (⟨#[112, 98]⟩ : ByteArray), (⟨#[112, 99]⟩ : ByteArray)] : List ByteArray).length : Int)))) wz rfl (h_nil ?_)))
   refine wH_seq (wH_ift rfl (drop_cons hD_5) (wH_skip ?_))
   unfold mk_Stream_RightPosts_L1 at hc_11
   refine wH_seq (wH_block (wH_seq (wH_region (h_ia es80 rfl rfl (drop_idx hD_5) rfl wz (h_ldc sz9 ag9 rfl (vS x_4) rfl wz (h_op (vS x_4) wz rfl (h_nil (wH_seq (wH_region (h_op (.ref (extN 0) 0 0) wz rfl ?_))))))))))
   obtain ⟨r_15, hr_16, hc_11⟩ := bind_some hc_11
   refine h_callq 0 [0] il ft (mk_Stream_Flip_ok hr_16) rfl hb56 rfl (by kernel_rfl) (by kernel_rfl) (by kernel_rfl) (by kernel_rfl) (by kernel_rfl) (by kernel_rfl) (by kernel_rfl) (by decide) (by kernel_rfl) wz (vB r_15.1) (by kernel_rfl) ([((extN 0), some (.cells 2 [(vL eI r_15.2.L), (vI r_15.2.f_at)])), (n_10, gB 3 Post.enc s_7.1)] : Hp) (by kernel_rfl) (h_op (vB (!r_15.1)) wz rfl (h_nil ?_))
   obtain ⟨v_18, h_19, hc_11⟩ := bind_some hc_11
   refine wH_join (β := Nm) (fun (n_20 : Nm) => ([(0, (.ref (extN 0) 0 0)), (3, (gV n_20 3 v_18.1)), (6, (vL eS ([(⟨#[112, 97]⟩ : ByteArray), (⟨#[112, 98]⟩ : ByteArray), (⟨#[112, 99]⟩ : ByteArray)] : List ByteArray))), (7, (vI (([(⟨#[112, 97]⟩ : ByteArray), (⟨#[112, 98]⟩ : ByteArray), (⟨#[112, 99]⟩ : ByteArray)] : List ByteArray).length : Int))), (8, (vI (k_2 : Int)))] : List (Nat × V))) (fun (n_20 : Nm) => ([((extN 0), some (.cells 2 [(vL eI v_18.2.1), (vI v_18.2.2)])), (n_20, gB 3 Post.enc v_18.1)] : Hp)) (fun _ => True) ?_ ?_
   ·rcases cond_some h_19 with ⟨hc_21, h_19⟩ | ⟨hc_21, h_19⟩
    ·refine wH_ift rfl hc_21 (wH_region (h_op (gV n_10 3 s_7.1) wz rfl (h_op (vS x_4) wz rfl (h_op (.ref (extN 0) 0 0) wz rfl ?_))))
     obtain ⟨r_22, hr_23, h_19⟩ := bind_some h_19
     refine h_callq 0 [0] il ft (mk_Stream_Range_ok hr_23) rfl hb13 rfl (by kernel_rfl) (by kernel_rfl) (by kernel_rfl) (by kernel_rfl) (by kernel_rfl) (by kernel_rfl) (by kernel_rfl) (by decide) (by kernel_rfl) wz (vI r_22.1) (by kernel_rfl) ([((extN 0), some (.cells 2 [(vL eI r_22.2.L), (vI r_22.2.f_at)])), (n_10, gB 3 Post.enc s_7.1)] : Hp) (by kernel_rfl) (h_op (.ref (extN 0) 0 0) wz rfl ?_)
     obtain ⟨r_25, hr_26, h_19⟩ := bind_some h_19
     refine h_callq 0 [0] il ft (mk_Stream_Range_ok hr_26) rfl hb13 rfl (by kernel_rfl) (by kernel_rfl) (by kernel_rfl) (by kernel_rfl) (by kernel_rfl) (by kernel_rfl) (by kernel_rfl) (by decide) (by kernel_rfl) wz (vI r_25.1) (by kernel_rfl) ([((extN 0), some (.cells 2 [(vL eI r_25.2.L), (vI r_25.2.f_at)])), (n_10, gB 3 Post.enc s_7.1)] : Hp) (by kernel_rfl) (h_op (.d (.agg (Post.enc (⟨x_4, r_22.1, r_25.1⟩ : Post)))) wz (by kernel_rfl) (h_lit (([(⟨x_4, r_22.1, r_25.1⟩ : Post)] : List Post).map Post.enc) es86 ez86 rfl rfl rfl rfl rfl wz ?_))
     obtain ⟨a_28, hz_29, h_19⟩ := bind_some h_19
     refine h_appg 0 il ft (i := 1) el86 el86 sz77 z77 rfl (by decide) by77 (by decide) (fun _ => rfl) rfl rfl rfl hz_29 wz (fun n_30 => h_op (gV n_30 3 a_28) wz rfl (h_nil ?_))
     obtain rfl := some_inj h_19
     exact cut_mk n_30 trivial rfl (pre_r rfl)
    ·refine wH_iff rfl hc_21 (wH_skip ?_)
     obtain rfl := some_inj h_19
     exact cut_mk n_10 trivial rfl (pre_r rfl)
   ·rintro n_20 _ sl_ H_ hp_ hq_
    refine wH_at _ hp_ hq_ (wH_region (h_opw (w64_next hD_5 hn_6) wz rfl (h_op (vI ((k_2 + 1 : Nat) : Int)) wz rfl (h_nil ?_))))
    obtain rfl := some_inj hc_11
    exact loop_mk (k_2 + 1, l_3, (v_18.1, v_18.2.1, v_18.2.2), n_20) ⟨hL_12, drop_next hD_5⟩ (Nat.lt_succ_self _) rfl (pre_r rfl)
 ·rintro ⟨s_7, n_10⟩ ho_ sl_ H_ hp_ hq_
  subst ho_
  refine wH_at _ hp_ hq_ (wH_seq (wH_region (h_op (gV n_10 3 s_7.1) wz rfl (h_op (gV n_10 3 s_7.1) wz rfl (h_nil ?_)))))
  obtain rfl := some_inj hF
  exact wH_ret (finG (outs := ([(.cells 2 [(vL eI s_7.2.1), (vI s_7.2.2)])] : List Box)) (.inr rfl) 1 rfl rfl rfl (by kernel_rfl) (by kernel_rfl))
theorem mk_Stream_Posts_ok {s_1 : Stream} {r : (List Post) × Stream} (hF : mk_Stream_Posts s_1 = some r) :
  FnM Tryz.prog 33 [(.ref (extN 0) 0 0)] [(.cells 2 [(vL eI s_1.L), (vI s_1.f_at)])] (vL Post.enc r.1) [some (.cells 2 [(vL eI r.2.L), (vI r.2.f_at)])] := by
 refine FnM.of_wH ⟨Tryz.prog, 36, [], []⟩ rfl Tryz.func33 rfl rfl (Nat.le_of_ble_eq_true rfl) (by kernel_rfl) ?_
 unfold mk_Stream_Posts at hF
 refine wH_seq (wH_region (h_op .nil wz rfl (h_nil (wH_seq (wH_region (h_op (.ref (extN 0) 0 0) wz rfl ?_))))))
 obtain ⟨r_2, hr_3, hF⟩ := bind_some hF
 refine h_callg [0] (mk_Stream_RightPosts_okb hr_3) rfl hb55 rfl (by kernel_rfl) (by kernel_rfl) (by kernel_rfl) (by kernel_rfl) (by kernel_rfl) rfl (by decide) (by kernel_rfl) wz ([((extN 0), some (.cells 2 [(vL eI r_2.2.L), (vI r_2.2.f_at)]))] : Hp) (fun _ => by kernel_rfl) (fun n_5 => h_op (gV n_5 3 r_2.1) wz rfl (h_nil (wH_seq (wH_seq ?_))))
 obtain ⟨v_6, h_7, hF⟩ := bind_some hF
 refine wH_join (β := Unit) (fun _ => ([(0, (.ref (extN 0) 0 0)), (3, (gV n_5 3 r_2.1)), (13, (vB v_6.1))] : List (Nat × V))) (fun _ => ([((extN 0), some (.cells 2 [(vL eI v_6.2.1), (vI v_6.2.2)])), (n_5, gB 3 Post.enc r_2.1)] : Hp)) (fun _ => True) ?_ ?_
 ·refine wH_region (h_op (gV n_5 3 r_2.1) wz rfl (h_leng un86 rfl wz (h_op (vB (decide ((r_2.1.length : Int) > 0))) wz rfl ?_)))
  rcases cond_some h_7 with ⟨hc_8, h_7⟩ | ⟨hc_8, h_7⟩
  ·refine h_movb rfl hc_8 wz (h_op (.ref (extN 0) 0 0) wa rfl ?_)
   obtain ⟨r_9, hr_10, h_7⟩ := bind_some h_7
   refine h_callq 0 [0] il ft (mk_Stream_Flip_ok hr_10) rfl hb56 rfl (by kernel_rfl) (by kernel_rfl) (by kernel_rfl) (by kernel_rfl) (by kernel_rfl) (by kernel_rfl) (by kernel_rfl) (by decide) (by kernel_rfl) wa (vB r_9.1) (by kernel_rfl) ([((extN 0), some (.cells 2 [(vL eI r_9.2.L), (vI r_9.2.f_at)])), (n_5, gB 3 Post.enc r_2.1)] : Hp) (by kernel_rfl) (h_op (vB r_9.1) wz rfl (h_nil ?_))
   obtain rfl := some_inj h_7
   exact cu
  ·refine h_movb rfl hc_8 wz (h_skip wa (h_skip wa (h_op (vB false) wz rfl (h_nil ?_))))
   obtain rfl := some_inj h_7
   exact cu
 ·rintro ⟨⟩ _ sl_ H_ hp_ hq_
  refine wH_at _ hp_ hq_ ?_
  obtain ⟨v_12, h_13, hF⟩ := bind_some hF
  refine wH_join (β := Unit) (fun _ => ([(3, (gV n_5 3 v_12.1))] : List (Nat × V))) (fun _ => ([((extN 0), some (.cells 2 [(vL eI v_12.2.1), (vI v_12.2.2)])), (n_5, gB 3 Post.enc v_12.1)] : Hp)) (fun _ => True) ?_ ?_
  ·rcases cond_some h_13 with ⟨hc_14, h_13⟩ | ⟨hc_14, h_13⟩
   ·refine wH_ift rfl hc_14 (wH_seq (wH_region (h_op (gV n_5 3 r_2.1) wz rfl (h_op (.ref (extN 0) 0 0) wz rfl (h_op (gV n_5 3 r_2.1) wz rfl (h_leng un86 rfl wz ?_))))))
    obtain ⟨r_15, hr_16, h_13⟩ := bind_some h_13
    refine h_callq 0 [0] il ft (mk_Stream_Next_ok hr_16) rfl hb84 rfl (by kernel_rfl) (by kernel_rfl) (by kernel_rfl) (by kernel_rfl) (by kernel_rfl) (by kernel_rfl) (by kernel_rfl) (by decide) (by kernel_rfl) wz (vI r_15.1) (by kernel_rfl) ([((extN 0), some (.cells 2 [(vL eI r_15.2.L), (vI r_15.2.f_at)])), (n_5, gB 3 Post.enc r_2.1)] : Hp) (by kernel_rfl) ?_
    obtain ⟨_, hi_18, h_13⟩ := bind_some h_13
    refine h_iavg es86 rfl rfl (inR_0 hi_18) (inR_lt hi_18) wz (h_op (.ref n_5 (0 + (r_15.1).toNat) 0) wz rfl (h_nil (wH_region (h_op (.ref n_5 (0 + (r_15.1).toNat) 0) wz rfl (h_op (.ref n_5 (0 + (r_15.1).toNat) 0) wz rfl (h_op (.ref (extN 0) 0 0) wz rfl (h_op (.ref n_5 (0 + (r_15.1).toNat) 0) wz rfl (h_op (.ref n_5 (0 + (r_15.1).toNat) 0) wz rfl (h_far pl77_0 rfl 0 rfl wz ?_)))))))))
    obtain ⟨e_19, hy_20, h_13⟩ := bind_some h_13
    refine h_ldvg 0 1 il ft sz9 ag9 rfl rfl hy_20 (vS e_19.Player) rfl wz (h_lit (([e_19.Player, (⟨#[]⟩ : ByteArray), (⟨#[112, 97]⟩ : ByteArray)] : List ByteArray).map eS) es80 ez80 rfl rfl rfl rfl rfl wz ?_)
    obtain ⟨r_21, hr_22, h_13⟩ := bind_some h_13
    refine h_callq 0 [0] il ft (mk_Stream_Some_ok hr_22) rfl hb70 rfl (by kernel_rfl) (by kernel_rfl) (by kernel_rfl) (by kernel_rfl) (by kernel_rfl) (by kernel_rfl) (by kernel_rfl) (by decide) (by kernel_rfl) wz (vS r_21.1) (by kernel_rfl) ([((extN 0), some (.cells 2 [(vL eI r_21.2.L), (vI r_21.2.f_at)])), (n_5, gB 3 Post.enc r_2.1)] : Hp) (by kernel_rfl) (h_op (.ref (extN 0) 0 0) wz rfl ?_)
    obtain ⟨r_24, hr_25, h_13⟩ := bind_some h_13
    refine h_callq 0 [0] il ft (mk_Stream_Odd_ok hr_25) rfl hb114 rfl (by kernel_rfl) (by kernel_rfl) (by kernel_rfl) (by kernel_rfl) (by kernel_rfl) (by kernel_rfl) (by kernel_rfl) (by decide) (by kernel_rfl) wz (vI r_24.1) (by kernel_rfl) ([((extN 0), some (.cells 2 [(vL eI r_24.2.L), (vI r_24.2.f_at)])), (n_5, gB 3 Post.enc r_2.1)] : Hp) (by kernel_rfl) (h_op (.ref n_5 (0 + (r_15.1).toNat) 0) wz rfl (h_far pl77_0 rfl 0 rfl wz ?_))
    obtain ⟨e_27, hy_28, h_13⟩ := bind_some h_13
    refine h_stvg 0 il ft 1 sz9 rfl rfl hy_28 (⟨r_21.1, e_27.X, e_27.Y⟩ : Post) rfl wz (h_re (v' := (gV n_5 3 (r_2.1.set (0 + (r_15.1).toNat) (⟨r_21.1, e_27.X, e_27.Y⟩ : Post)))) 3 rfl (gV_len (by simp)) (h_re (v' := (gV n_5 3 (r_2.1.set (0 + (r_15.1).toNat) (⟨r_21.1, e_27.X, e_27.Y⟩ : Post)))) 14 rfl (gV_len (by simp)) (h_re (v' := (gV n_5 3 (r_2.1.set (0 + (r_15.1).toNat) (⟨r_21.1, e_27.X, e_27.Y⟩ : Post)))) 16 rfl (gV_len (by simp)) (h_op (.ref n_5 (0 + (r_15.1).toNat) 0) wz rfl (h_far pl77_1 rfl 1 rfl wz ?_)))))
    obtain ⟨e_29, hy_30, h_13⟩ := bind_some h_13
    refine h_stvg 0 il ft 1 sz3 rfl rfl hy_30 (⟨e_29.Player, r_24.1, e_29.Y⟩ : Post) rfl wz (h_re (v' := (gV n_5 3 ((r_2.1.set (0 + (r_15.1).toNat) (⟨r_21.1, e_27.X, e_27.Y⟩ : Post)).set (0 + (r_15.1).toNat) (⟨e_29.Player, r_24.1, e_29.Y⟩ : Post)))) 3 rfl (gV_len (by simp)) (h_re (v' := (gV n_5 3 ((r_2.1.set (0 + (r_15.1).toNat) (⟨r_21.1, e_27.X, e_27.Y⟩ : Post)).set (0 + (r_15.1).toNat) (⟨e_29.Player, r_24.1, e_29.Y⟩ : Post)))) 14 rfl (gV_len (by simp)) (h_re (v' := (gV n_5 3 ((r_2.1.set (0 + (r_15.1).toNat) (⟨r_21.1, e_27.X, e_27.Y⟩ : Post)).set (0 + (r_15.1).toNat) (⟨e_29.Player, r_24.1, e_29.Y⟩ : Post)))) 16 rfl (gV_len (by simp)) (h_nil ?_))))
    obtain rfl := some_inj h_13
    exact cu
   ·refine wH_iff rfl hc_14 (wH_skip ?_)
    obtain rfl := some_inj h_13
    exact cu
  ·rintro ⟨⟩ _ sl_ H_ hp_ hq_
   refine wH_at _ hp_ hq_ (wH_seq (wH_region (h_op (gV n_5 3 v_12.1) wz rfl (h_op (gV n_5 3 v_12.1) wz rfl (h_nil (wH_frozg 1 rfl (wH_cog 2 1 rfl rfl (wH_cog 3 1 rfl rfl (wH_cog 35 1 rfl rfl ?_)))))))))
   obtain rfl := some_inj hF
   exact wH_ret (finB (.inr rfl) [(vL Post.enc v_12.1)] _ [0] [extN 0] ⟨rfl, trivial⟩ (.cons (co_data rfl rfl) (.nil)) (by kernel_rfl) ⟨(by kernel_rfl), trivial⟩ (by decide) (by kernel_rfl))
theorem alert_Covered_ok {l_1 : (List Alert)} {posts_2 : (List Post)} {atv_3 : Int} {r : (List Pair) × Int} (hF : alert_Covered l_1 posts_2 atv_3 = some r) :
  FnM Tryz.prog 35 [(vL Alert.enc l_1), (vL Post.enc posts_2), (vI atv_3)] [] (.tup [(vL Pair.enc r.1), (vI r.2)]) [] := by
 refine FnM.of_wH ⟨Tryz.prog, 54, [], []⟩ rfl Tryz.func35 rfl rfl (Nat.le_of_ble_eq_true rfl) (by kernel_rfl) ?_
 unfold alert_Covered at hF
 refine wH_seq (wH_region (h_op .nil wz rfl (h_op (vI 0) wz rfl (h_nil (wH_seq (wH_seq (wH_region (h_op (vL Alert.enc l_1) wz rfl (h_op (vL Post.enc posts_2) wz rfl ?_)))))))))
 obtain ⟨r_4, hr_5, hF⟩ := bind_some hF
 refine h_call0 (alert_checkBoth_ok hr_5) rfl hb112 rfl rfl rfl rfl wz (h_op (vI r_4) wz rfl (h_nil (wH_seq (wH_region (h_op (vI r_4) wz rfl (h_op (vB (r_4 != 0)) wz rfl (h_nil ?_)))))))
 rcases cond_some hF with ⟨hc_6, hF⟩ | ⟨hc_6, hF⟩
 ·refine wH_ift rfl hc_6 (wH_seq (wH_region (h_op (vI r_4) wz rfl (h_op .nil wz rfl (h_op (vI r_4) wz rfl (h_nil ?_))))))
  obtain rfl := some_inj hF
  exact wH_ret (fin0 (.inr rfl) [.nil, (vI r_4)] ⟨rfl, ⟨rfl, trivial⟩⟩ rfl rfl rfl)
 ·refine wH_iff rfl hc_6 (wH_skip (wH_seq (wH_seq (wH_region (h_op (vI atv_3) wz rfl ?_)))))
  obtain ⟨r_7, hr_8, hF⟩ := bind_some hF
  refine h_call0 (alert_momentFault_ok hr_8) rfl hb116 rfl rfl rfl rfl wz (h_op (vI r_7) wz rfl (h_nil (wH_seq (wH_region (h_op (vI r_7) wz rfl (h_op (vB (r_7 != 0)) wz rfl (h_nil ?_)))))))
  rcases cond_some hF with ⟨hc_9, hF⟩ | ⟨hc_9, hF⟩
  ·refine wH_ift rfl hc_9 (wH_seq (wH_region (h_op (vI r_7) wz rfl (h_op .nil wz rfl (h_op (vI r_7) wz rfl (h_nil ?_))))))
   obtain rfl := some_inj hF
   exact wH_ret (fin0 (.inr rfl) [.nil, (vI r_7)] ⟨rfl, ⟨rfl, trivial⟩⟩ rfl rfl rfl)
  ·refine wH_iff rfl hc_9 (wH_skip (wH_seq (wH_region (h_op (vL Alert.enc l_1) wz rfl ?_))))
   obtain ⟨r_10, hr_11, hF⟩ := bind_some hF
   refine h_call0 (alert_ends_ok hr_11) rfl hb117 rfl rfl rfl rfl wz (h_op (vL eI r_10) wz rfl (h_nil (wH_seq (wH_region (h_op .nil wz rfl (h_nil (wH_seq (wH_seq (wH_region (h_op (vL Post.enc posts_2) wz rfl (h_len un86 rfl wz (h_op (vI 0) wz rfl (h_nil (wH_new (fun n_18 => ?_)))))))))))))))
   obtain ⟨o_23, hj_24, hF⟩ := bind_some hF
   obtain ⟨hn_16, hj_24⟩ := forL_some hj_24
   refine wH_join (β := ((List Pair)) × Nm) (fun p => (fun (s_17 : (List Pair)) (n_20 : Nm) => ([(11, (gV n_20 2 s_17))] : List (Nat × V))) p.1 p.2) (fun p => (fun (s_17 : (List Pair)) (n_20 : Nm) => ([(n_20, gB 2 Pair.enc s_17)] : Hp)) p.1 p.2) (fun p => o_23 = .go p.1) ?_ ?_
   ·refine wH_block (wH_loop (β := Nat × (List Post) × ((List Pair)) × Nm) (fun p => (fun (k_12 : Nat) (l_13 : List Post) (s_17 : (List Pair)) (n_20 : Nm) => ([(0, (vL Alert.enc l_1)), (2, (vI atv_3)), (10, (vL eI r_10)), (11, (gV n_20 2 s_17)), (28, (vL Post.enc posts_2)), (29, (vI (posts_2.length : Int))), (30, (vI (k_12 : Int)))] : List (Nat × V))) p.1 p.2.1 p.2.2.1 p.2.2.2) (fun p => (fun (k_12 : Nat) (l_13 : List Post) (s_17 : (List Pair)) (n_20 : Nm) => ([(n_20, gB 2 Pair.enc s_17)] : Hp)) p.1 p.2.1 p.2.2.1 p.2.2.2) (fun p => forR (fun k x s => alert_Covered_L1 l_1 r_10 atv_3 k x s) p.2.1 p.1 p.2.2.1 = some o_23 ∧ (posts_2).drop p.1 = p.2.1) (fun p => p.2.1.length) (0, posts_2, ([] : List Pair), n_18) ⟨hj_24, rfl⟩ rfl (pre_r rfl) ?_)
    rintro ⟨k_12, l_13, s_17, n_20⟩ ⟨hL_22, hD_15⟩
    dsimp only at hL_22 hD_15
    cases l_13 with
    | nil =>
     obtain rfl := some_inj hL_22
     refine wH_seq (wH_region (h_op (vB (decide ((k_12 : Int) < (posts_2.length : Int)))) wz rfl (h_nil ?_)))
     refine wH_seq (wH_iff rfl (drop_nil hD_15) (wH_exit ?_))
     exact cut_mk (s_17, n_20) rfl rfl (pre_r rfl)
    | cons x_14 l_13 =>
     obtain ⟨c_, hc_21, hL_22⟩ := bind_some hL_22
     refine wH_seq (wH_region (h_op (vB (decide ((k_12 : Int) < (posts_2.length : Int)))) wz rfl (h_nil ?_)))
     refine wH_seq (wH_ift rfl (drop_cons hD_15) (wH_skip ?_))
     unfold alert_Covered_L1 at hc_21
     refine wH_seq (wH_block (wH_seq (wH_region (h_ia es86 rfl rfl (drop_idx hD_15) rfl wz (h_ldc sz77 ag77 rfl (.d (.agg (Post.enc x_14))) rfl wz (h_alloc 0 (.inl rfl) z77 rfl wz (fun n_25 => h_str 0 il ft 1 sz77 rfl rfl [(vS x_14.Player), (vI x_14.X), (vI x_14.Y)] rfl wz (h_nil (wH_seq (wH_region (h_op (vL Alert.enc l_1) wz rfl (h_op (vL eI r_10) wz rfl (h_ldr 0 1 il ft sz77 ag77 rfl rfl (.d (.agg (Post.enc x_14))) rfl wz (h_op (vI atv_3) wz rfl ?_))))))))))))))
     obtain ⟨r_26, hr_27, hc_21⟩ := bind_some hc_21
     refine h_call0 (alert_ranked_ok hr_27) rfl hb118 rfl rfl rfl rfl wz (h_op (vL Alert.enc r_26) wz rfl (h_nil (wH_seq (wH_region (h_op (vL Alert.enc r_26) wz rfl (h_len un78 rfl wz (h_op (vB (decide ((r_26.length : Int) > 0))) wz rfl (h_nil ?_))))))))
     obtain ⟨v_28, h_29, hc_21⟩ := bind_some hc_21
     refine wH_join (β := Nm) (fun (n_30 : Nm) => ([(0, (vL Alert.enc l_1)), (2, (vI atv_3)), (10, (vL eI r_10)), (11, (gV n_30 2 v_28)), (28, (vL Post.enc posts_2)), (29, (vI (posts_2.length : Int))), (30, (vI (k_12 : Int)))] : List (Nat × V))) (fun (n_30 : Nm) => ([(n_30, gB 2 Pair.enc v_28), (n_25, some (.cells 3 [(vS x_14.Player), (vI x_14.X), (vI x_14.Y)]))] : Hp)) (fun _ => True) ?_ ?_
     ·rcases cond_some h_29 with ⟨hc_31, h_29⟩ | ⟨hc_31, h_29⟩
      ·refine wH_ift rfl hc_31 (wH_draws (h_op (gV n_20 2 s_17) wz rfl (h_far pl77_0 rfl 0 rfl wz (h_ldr 2 1 (.inr (by kernel_rfl)) (fun _ _ ag => trivial) sz9 ag9 rfl rfl (vS x_14.Player) rfl wz (h_op (vL Alert.enc r_26) wz rfl ?_)))))
       obtain ⟨y_32, hy_33, h_29⟩ := bind_some h_29
       refine h_ia es78 rfl rfl hy_33 rfl wz (h_fac pl82_0 rfl [.str y_32.Id, .str y_32.Sender, .int .i64 y_32.Kind, dl eS y_32.Refs, .int .i64 y_32.At, .int .i64 y_32.Until, .int .i64 y_32.Weight, dl Rect.enc y_32.Areas, .str y_32.Text] rfl rfl wz (h_ldc sz9 ag9 rfl (vS y_32.Id) rfl wz (h_op (.d (.agg (Pair.enc (⟨x_14.Player, y_32.Id⟩ : Pair)))) wz (by kernel_rfl) (h_lit (([(⟨x_14.Player, y_32.Id⟩ : Pair)] : List Pair).map Pair.enc) es89 ez89 rfl rfl rfl rfl rfl wz ?_))))
       obtain ⟨a_34, hz_35, h_29⟩ := bind_some h_29
       refine h_appg 9 (.inr (by kernel_rfl)) (fun _ _ ag => ⟨.inr (.inr (by kernel_rfl)), trivial⟩) (i := 0) el89 el89 sz98 z98 rfl (by decide) by98 (by decide) (fun _ => rfl) rfl rfl rfl hz_35 wz (fun n_36 => h_op (gV n_36 2 a_34) wz rfl (h_nil ?_))
       obtain rfl := some_inj h_29
       exact cut_mk n_36 trivial rfl (pre_r rfl)
      ·refine wH_iff rfl hc_31 (wH_skip ?_)
       obtain rfl := some_inj h_29
       exact cut_mk n_20 trivial rfl (pre_r rfl)
     ·rintro n_30 _ sl_ H_ hp_ hq_
      refine wH_at _ hp_ hq_ (wH_region (h_opw (w64_next hD_15 hn_16) wz rfl (h_op (vI ((k_12 + 1 : Nat) : Int)) wz rfl (h_nil ?_))))
      obtain rfl := some_inj hc_21
      exact loop_mk (k_12 + 1, l_13, v_28, n_30) ⟨hL_22, drop_next hD_15⟩ (Nat.lt_succ_self _) rfl (pre_r rfl)
   ·rintro ⟨s_17, n_20⟩ ho_ sl_ H_ hp_ hq_
    subst ho_
    refine wH_at _ hp_ hq_ (wH_seq (wH_region (h_op (gV n_20 2 s_17) wz rfl (h_op (gV n_20 2 s_17) wz rfl (h_op (vI 0) wz rfl (h_nil (wH_frozg 0 rfl (wH_cog 6 0 rfl rfl (wH_cog 11 0 rfl rfl (wH_cog 53 0 rfl rfl ?_))))))))))
    obtain rfl := some_inj hF
    exact wH_ret (fin0 (.inr rfl) [(vL Pair.enc s_17), (vI 0)] ⟨rfl, ⟨rfl, trivial⟩⟩ rfl rfl rfl)
theorem ref_in_ok {n_1 : Int} {low_2 : Int} {high_3 : Int} {r : Bool} (hF : ref_in n_1 low_2 high_3 = some r) :
  FnM Tryz.prog 122 [(vI n_1), (vI low_2), (vI high_3)] [] (vB r) [] := by
 refine FnM.of_wH ⟨Tryz.prog, 15, [], []⟩ rfl Tryz.func122 rfl rfl (Nat.le_of_ble_eq_true rfl) (by kernel_rfl) ?_
 unfold ref_in at hF
 refine wH_seq (wH_region (h_op (vB false) wz rfl (h_nil (wH_seq ?_))))
 obtain ⟨v_4, h_5, hF⟩ := bind_some hF
 refine wH_join (β := Unit) (fun _ => ([(6, (vB v_4))] : List (Nat × V))) (fun _ => ([] : Hp)) (fun _ => True) ?_ ?_
 ·refine wH_region (h_op (vI low_2) wz rfl (h_op (vI n_1) wz rfl (h_op (vB (decide (low_2 ≤ n_1))) wz rfl ?_)))
  rcases cond_some h_5 with ⟨hc_6, h_5⟩ | ⟨hc_6, h_5⟩
  ·refine h_movb rfl hc_6 wz (h_op (vI n_1) wa rfl (h_op (vI high_3) wa rfl (h_op (vB (decide (n_1 ≤ high_3))) wa rfl (h_op (vB (decide (n_1 ≤ high_3))) wz rfl (h_op (vB (decide (n_1 ≤ high_3))) wz rfl (h_nil ?_))))))
   obtain rfl := some_inj h_5
   exact cu
  ·refine h_movb rfl hc_6 wz (h_skip wa (h_skip wa (h_skip wa (h_op (vB false) wz rfl (h_op (vB false) wz rfl (h_nil ?_))))))
   obtain rfl := some_inj h_5
   exact cu
 ·rintro ⟨⟩ _ sl_ H_ hp_ hq_
  refine wH_at _ hp_ hq_ ?_
  obtain rfl := some_inj hF
  exact wH_ret (fin0 (.inr rfl) [(vB v_4)] ⟨rfl, trivial⟩ rfl rfl rfl)
theorem internal_stringslite_IndexByte_ok {s_1 : ByteArray} {c_2 : Int} {r : Int} (hF : internal_stringslite_IndexByte s_1 c_2 = some r) :
  FnM Tryz.prog 292 [(vS s_1), (.d (.int .u8 c_2))] [] (vI r) [] := by
 refine FnM.of_wH ⟨Tryz.prog, 8, [], []⟩ rfl Tryz.func292 rfl rfl (Nat.le_of_ble_eq_true rfl) (by kernel_rfl) ?_
 unfold internal_stringslite_IndexByte at hF
 refine wH_seq (wH_region (h_op (vI 0) wz rfl (h_nil (wH_seq (wH_region (h_op (vS s_1) wz rfl (h_op (.d (.int .u8 c_2)) wz rfl (h_ext (ext_ixB (f := 319) Tryz.func319 rfl rfl (by kernel_rfl) (by kernel_rfl) _ _) rfl nb319 rfl wz (h_op (vI (ixB s_1 c_2)) wz rfl (h_nil ?_))))))))))
 obtain rfl := some_inj hF
 exact wH_ret (fin0 (.inr rfl) [(vI (ixB s_1 c_2))] ⟨rfl, trivial⟩ rfl rfl rfl)
theorem strings_IndexByte_ok {s_1 : ByteArray} {c_2 : Int} {r : Int} (hF : strings_IndexByte s_1 c_2 = some r) :
  FnM Tryz.prog 240 [(vS s_1), (.d (.int .u8 c_2))] [] (vI r) [] := by
 refine FnM.of_wH ⟨Tryz.prog, 8, [], []⟩ rfl Tryz.func240 rfl rfl (Nat.le_of_ble_eq_true rfl) (by kernel_rfl) ?_
 unfold strings_IndexByte at hF
 refine wH_seq (wH_region (h_op (vI 0) wz rfl (h_nil (wH_seq (wH_region (h_op (vS s_1) wz rfl (h_op (.d (.int .u8 c_2)) wz rfl ?_)))))))
 obtain ⟨r_3, hr_4, hF⟩ := bind_some hF
 refine h_call0 (internal_stringslite_IndexByte_ok hr_4) rfl hb292 rfl rfl rfl rfl wz (h_op (vI r_3) wz rfl (h_nil ?_))
 obtain rfl := some_inj hF
 exact wH_ret (fin0 (.inr rfl) [(vI r_3)] ⟨rfl, trivial⟩ rfl rfl rfl)
theorem ref_only_ok {s_1 : ByteArray} {somev_2 : ByteArray} {r : Bool} (hF : ref_only s_1 somev_2 = some r) :
  FnM Tryz.prog 196 [(vS s_1), (vS somev_2)] [] (vB r) [] := by
 refine FnM.of_wH ⟨Tryz.prog, 18, [], []⟩ rfl Tryz.func196 rfl rfl (Nat.le_of_ble_eq_true rfl) (by kernel_rfl) ?_
 unfold ref_only at hF
 refine wH_seq (wH_region (h_op (vB false) wz rfl (h_nil (wH_seq (wH_seq (wH_region (h_op (vS s_1) wz rfl (h_lens un9 rfl wz (h_op (vI 0) wz rfl (h_nil ?_))))))))))
 obtain ⟨o_11, hj_12, hF⟩ := bind_some hF
 obtain ⟨hn_7, hj_12⟩ := forL_some hj_12
 refine wH_join (β := (Unit)) (fun (s_8 : Unit) => ([] : List (Nat × V))) (fun (s_8 : Unit) => ([] : Hp)) (fun p => o_11 = .go p) ?_ ?_
 ·refine wH_block (wH_loop (β := Nat × (List Nat) × (Unit)) (fun p => (fun (k_3 : Nat) (l_4 : List Nat) (s_8 : Unit) => ([(0, (vS s_1)), (1, (vS somev_2)), (7, (vI (s_1.size : Int))), (8, (vI (k_3 : Int)))] : List (Nat × V))) p.1 p.2.1 p.2.2) (fun p => (fun (k_3 : Nat) (l_4 : List Nat) (s_8 : Unit) => ([] : Hp)) p.1 p.2.1 p.2.2) (fun p => forR (fun k x s => ref_only_L1 s_1 somev_2 k x s) p.2.1 p.1 p.2.2 = some o_11 ∧ ((List.range ((s_1.size : Int)).toNat)).drop p.1 = p.2.1) (fun p => p.2.1.length) (0, (List.range ((s_1.size : Int)).toNat), ()) ⟨hj_12, rfl⟩ rfl (pre_r rfl) ?_)
  rintro ⟨k_3, l_4, s_8⟩ ⟨hL_10, hD_6⟩
  dsimp only at hL_10 hD_6
  cases l_4 with
  | nil =>
   obtain rfl := some_inj hL_10
   refine wH_seq (wH_region (h_op (vB (decide ((k_3 : Int) < (s_1.size : Int)))) wz rfl (h_nil ?_)))
   refine wH_seq (wH_iff rfl (range_nil hD_6) (wH_exit ?_))
   exact cut_mk (s_8) rfl rfl (pre_r rfl)
  | cons x_5 l_4 =>
   obtain ⟨c_, hc_9, hL_10⟩ := bind_some hL_10
   refine wH_seq (wH_region (h_op (vB (decide ((k_3 : Int) < (s_1.size : Int)))) wz rfl (h_nil ?_)))
   refine wH_seq (wH_ift rfl (range_cons hD_6) (wH_skip ?_))
   unfold ref_only_L1 at hc_9
   refine wH_seq (wH_block (wH_seq (wH_region (h_op (vI (k_3 : Int)) wz rfl (h_op (vI (k_3 : Int)) wz rfl (h_nil (wH_seq (wH_region (h_op (vS somev_2) wz rfl (h_op (vS s_1) wz rfl (h_op (vI (k_3 : Int)) wz rfl ?_)))))))))))
   obtain ⟨b_13, hy_14, hc_9⟩ := bind_some hc_9
   refine h_idxs un9 rfl rfl hy_14 wz ?_
   obtain ⟨r_15, hr_16, hc_9⟩ := bind_some hc_9
   refine h_call0 (strings_IndexByte_ok hr_16) rfl hb240 rfl rfl rfl rfl wz (h_op (vB (decide (r_15 < 0))) wz rfl (h_nil ?_))
   rcases cond_some hc_9 with ⟨hc_17, hc_9⟩ | ⟨hc_17, hc_9⟩
   ·refine wH_ift rfl hc_17 (wH_seq (wH_region (h_op (vB false) wz rfl (h_nil ?_))))
    obtain rfl := some_inj hc_9
    obtain rfl := some_inj hL_10
    obtain rfl := some_inj hF
    exact wH_ret (fin0 (.inr rfl) [(vB false)] ⟨rfl, trivial⟩ rfl rfl rfl)
   ·refine wH_iff rfl hc_17 (wH_skip (wH_region (h_opw (w64_nextr hD_6 hn_7) wz rfl (h_op (vI ((k_3 + 1 : Nat) : Int)) wz rfl (h_nil ?_)))))
    obtain rfl := some_inj hc_9
    exact loop_mk (k_3 + 1, l_4, ()) ⟨hL_10, drop_next hD_6⟩ (Nat.lt_succ_self _) rfl (pre_r rfl)
 ·rintro s_8 ho_ sl_ H_ hp_ hq_
  subst ho_
  refine wH_at _ hp_ hq_ (wH_seq (wH_region (h_op (vB true) wz rfl (h_nil ?_))))
  obtain rfl := some_inj hF
  exact wH_ret (fin0 (.inr rfl) [(vB true)] ⟨rfl, trivial⟩ rfl rfl rfl)
theorem ref_Key_ok {s_1 : ByteArray} {r : Bool} (hF : ref_Key s_1 = some r) :
  FnM Tryz.prog 121 [(vS s_1)] [] (vB r) [] := by
 refine FnM.of_wH ⟨Tryz.prog, 15, [], []⟩ rfl Tryz.func121 rfl rfl (Nat.le_of_ble_eq_true rfl) (by kernel_rfl) ?_
 unfold ref_Key at hF
 refine wH_seq (wH_region (h_op (vB false) wz rfl (h_nil (wH_seq ?_))))
 obtain ⟨v_2, h_3, hF⟩ := bind_some hF
 refine wH_join (β := Unit) (fun _ => ([(2, (vB v_2))] : List (Nat × V))) (fun _ => ([] : Hp)) (fun _ => True) ?_ ?_
 ·refine wH_region (h_op (vS s_1) wz rfl (h_lens un9 rfl wz ?_))
  obtain ⟨r_4, hr_5, h_3⟩ := bind_some h_3
  refine h_call0 (ref_in_ok hr_5) rfl hb122 rfl rfl rfl rfl wz ?_
  rcases cond_some h_3 with ⟨hc_6, h_3⟩ | ⟨hc_6, h_3⟩
  ·refine h_movb rfl hc_6 wz (h_op (vS s_1) wa rfl ?_)
   obtain ⟨y_7, hy_8, h_3⟩ := bind_some h_3
   refine h_subFalseTrue un9 rfl rfl hy_8 wa ?_
   obtain ⟨r_9, hr_10, h_3⟩ := bind_some h_3
   refine h_call0 (ref_only_ok hr_10) rfl hb196 rfl rfl rfl rfl wa (h_op (vB r_9) wz rfl ?_)
   rcases cond_some h_3 with ⟨hc_11, h_3⟩ | ⟨hc_11, h_3⟩
   ·refine h_movb rfl hc_11 wz (h_op (vS s_1) wa rfl ?_)
    obtain ⟨r_12, hr_13, h_3⟩ := bind_some h_3
    refine h_call0 (ref_only_ok hr_13) rfl hb196 rfl rfl rfl rfl wa (h_op (vB r_12) wz rfl (h_op (vB r_12) wz rfl (h_nil ?_)))
    obtain rfl := some_inj h_3
    exact cu
   ·refine h_movb rfl hc_11 wz (h_skip wa (h_skip wa (h_op (vB false) wz rfl (h_op (vB false) wz rfl (h_nil ?_)))))
    obtain rfl := some_inj h_3
    exact cu
  ·refine h_movb rfl hc_6 wz (h_skip wa (h_skip wa (h_skip wa (h_op (vB false) wz rfl (h_op (vB false) wz rfl (h_skip wa (h_skip wa (h_op (vB false) wz rfl (h_op (vB false) wz rfl (h_nil ?_))))))))))
   obtain rfl := some_inj h_3
   exact cu
 ·rintro ⟨⟩ _ sl_ H_ hp_ hq_
  refine wH_at _ hp_ hq_ ?_
  obtain rfl := some_inj hF
  exact wH_ret (fin0 (.inr rfl) [(vB v_2)] ⟨rfl, trivial⟩ rfl rfl rfl)
theorem ref_Moment_ok {atv_1 : Int} {r : Bool} (hF : ref_Moment atv_1 = some r) :
  FnM Tryz.prog 123 [(vI atv_1)] [] (vB r) [] := by
 refine FnM.of_wH ⟨Tryz.prog, 5, [], []⟩ rfl Tryz.func123 rfl rfl (Nat.le_of_ble_eq_true rfl) (by kernel_rfl) ?_
 unfold ref_Moment at hF
 refine wH_seq (wH_region (h_op (vB false) wz rfl (h_nil (wH_seq (wH_region (h_op (vI atv_1) wz rfl ?_))))))
 obtain ⟨r_2, hr_3, hF⟩ := bind_some hF
 refine h_call0 (ref_in_ok hr_3) rfl hb122 rfl rfl rfl rfl wz (h_op (vB r_2) wz rfl (h_nil ?_))
 obtain rfl := some_inj hF
 exact wH_ret (fin0 (.inr rfl) [(vB r_2)] ⟨rfl, trivial⟩ rfl rfl rfl)
theorem ref_RectFault_ok {r_1 : Rect} {r : Int} (hF : ref_RectFault r_1 = some r) :
  FnM Tryz.prog 177 [(.d (.agg (Rect.enc r_1)))] [] (vI r) [] := by
 refine FnM.of_wH ⟨Tryz.prog, 31, [], []⟩ rfl Tryz.func177 rfl rfl (Nat.le_of_ble_eq_true rfl) (by kernel_rfl) ?_
 unfold ref_RectFault at hF
 refine wH_seq (wH_region (h_box 0 (.inl rfl) [(vI r_1.X), (vI r_1.Y), (vI r_1.W), (vI r_1.H)] rfl rfl wz (fun n_2 => h_op (vI 0) wz rfl (h_nil (wH_seq (wH_seq ?_))))))
 obtain ⟨v_3, h_4, hF⟩ := bind_some hF
 refine wH_join (β := Unit) (fun _ => ([(30, (vB v_3))] : List (Nat × V))) (fun _ => ([(n_2, some (.cells 4 [(vI r_1.X), (vI r_1.Y), (vI r_1.W), (vI r_1.H)]))] : Hp)) (fun _ => True) ?_ ?_
 ·refine wH_region (h_far pl45_0 rfl 0 rfl wz (h_ldr 0 0 il ft sz3 ag3 rfl rfl (vI r_1.X) rfl wz ?_))
  obtain ⟨r_5, hr_6, h_4⟩ := bind_some h_4
  refine h_call0 (ref_in_ok hr_6) rfl hb122 rfl rfl rfl rfl wz (h_op (vB (!r_5)) wz rfl ?_)
  rcases cond_some h_4 with ⟨hc_7, h_4⟩ | ⟨hc_7, h_4⟩
  ·refine h_movb rfl hc_7 wz (h_skip wa (h_skip wa (h_skip wa (h_skip wa (h_op (vB true) wz rfl (h_op (vB true) wz rfl (h_skip wa (h_skip wa (h_skip wa (h_skip wa (h_skip wa (h_skip wa (h_skip wa (h_op (vB true) wz rfl (h_op (vB true) wz rfl (h_skip wa (h_skip wa (h_skip wa (h_skip wa (h_skip wa (h_skip wa (h_skip wa (h_op (vB true) wz rfl ?_)))))))))))))))))))))))
   refine h_nil ?_
   obtain rfl := some_inj h_4
   exact cu
  ·refine h_movb rfl hc_7 wz (h_far pl45_1 rfl 1 rfl wa (h_ldr 0 0 il ft sz3 ag3 rfl rfl (vI r_1.Y) rfl wa ?_))
   obtain ⟨r_8, hr_9, h_4⟩ := bind_some h_4
   refine h_call0 (ref_in_ok hr_9) rfl hb122 rfl rfl rfl rfl wa (h_op (vB (!r_8)) wa rfl (h_op (vB (!r_8)) wz rfl ?_))
   rcases cond_some h_4 with ⟨hc_10, h_4⟩ | ⟨hc_10, h_4⟩
   ·refine h_movb rfl hc_10 wz (h_skip wa (h_skip wa (h_skip wa (h_skip wa (h_skip wa (h_skip wa (h_skip wa (h_op (vB true) wz rfl (h_op (vB true) wz rfl (h_skip wa (h_skip wa (h_skip wa (h_skip wa (h_skip wa (h_skip wa (h_skip wa (h_op (vB true) wz rfl (h_nil ?_))))))))))))))))))
    obtain rfl := some_inj h_4
    exact cu
   ·refine h_movb rfl hc_10 wz (h_far pl45_2 rfl 2 rfl wa (h_ldr 0 0 il ft sz3 ag3 rfl rfl (vI r_1.W) rfl wa (h_far pl45_0 rfl 0 rfl wa (h_ldr 0 0 il ft sz3 ag3 rfl rfl (vI r_1.X) rfl wa (h_op (vI (w64 (100000 - r_1.X))) wa rfl ?_)))))
    obtain ⟨r_11, hr_12, h_4⟩ := bind_some h_4
    refine h_call0 (ref_in_ok hr_12) rfl hb122 rfl rfl rfl rfl wa (h_op (vB (!r_11)) wa rfl (h_op (vB (!r_11)) wz rfl ?_))
    rcases cond_some h_4 with ⟨hc_13, h_4⟩ | ⟨hc_13, h_4⟩
    ·refine h_movb rfl hc_13 wz (h_skip wa (h_skip wa (h_skip wa (h_skip wa (h_skip wa (h_skip wa (h_skip wa (h_op (vB true) wz rfl (h_nil ?_)))))))))
     obtain rfl := some_inj h_4
     exact cu
    ·refine h_movb rfl hc_13 wz (h_far pl45_3 rfl 3 rfl wa (h_ldr 0 0 il ft sz3 ag3 rfl rfl (vI r_1.H) rfl wa (h_far pl45_1 rfl 1 rfl wa (h_ldr 0 0 il ft sz3 ag3 rfl rfl (vI r_1.Y) rfl wa (h_op (vI (w64 (100000 - r_1.Y))) wa rfl ?_)))))
     obtain ⟨r_14, hr_15, h_4⟩ := bind_some h_4
     refine h_call0 (ref_in_ok hr_15) rfl hb122 rfl rfl rfl rfl wa (h_op (vB (!r_14)) wa rfl (h_op (vB (!r_14)) wz rfl (h_nil ?_)))
     obtain rfl := some_inj h_4
     exact cu
 ·rintro ⟨⟩ _ sl_ H_ hp_ hq_
  refine wH_at _ hp_ hq_ ?_
  rcases cond_some hF with ⟨hc_16, hF⟩ | ⟨hc_16, hF⟩
  ·refine wH_ift rfl hc_16 (wH_seq (wH_region (h_op (vI 1) wz rfl (h_nil ?_))))
   obtain rfl := some_inj hF
   exact wH_ret (fin0 (.inr rfl) [(vI 1)] ⟨rfl, trivial⟩ rfl rfl rfl)
  ·refine wH_iff rfl hc_16 (wH_skip (wH_seq (wH_region (h_op (vI 0) wz rfl (h_nil ?_)))))
   obtain rfl := some_inj hF
   exact wH_ret (fin0 (.inr rfl) [(vI 0)] ⟨rfl, trivial⟩ rfl rfl rfl)
theorem ref_Plain_1_ok {r_1 : Int} {r : Bool} (hF : ref_Plain_1 r_1 = some r) :
  FnM Tryz.prog 237 [(.d (.int .i32 r_1))] [] (vB r) [] := by
 refine FnM.of_wH ⟨Tryz.prog, 9, [], []⟩ rfl Tryz.func237 rfl rfl (Nat.le_of_ble_eq_true rfl) (by kernel_rfl) ?_
 unfold ref_Plain_1 at hF
 refine wH_seq (wH_region (h_op (vB false) wz rfl (h_nil (wH_seq ?_))))
 obtain ⟨v_2, h_3, hF⟩ := bind_some hF
 refine wH_join (β := Unit) (fun _ => ([(2, (vB v_2))] : List (Nat × V))) (fun _ => ([] : Hp)) (fun _ => True) ?_ ?_
 ·refine wH_region (h_op (.d (.int .i32 r_1)) wz rfl (h_op (vB (decide (r_1 < 32))) wz rfl ?_))
  rcases cond_some h_3 with ⟨hc_4, h_3⟩ | ⟨hc_4, h_3⟩
  ·refine h_movb rfl hc_4 wz (h_skip wa (h_skip wa (h_op (vB true) wz rfl (h_op (vB true) wz rfl (h_nil ?_)))))
   obtain rfl := some_inj h_3
   exact cu
  ·refine h_movb rfl hc_4 wz (h_op (.d (.int .i32 r_1)) wa rfl (h_op (vB (r_1 == 127)) wa rfl (h_op (vB (r_1 == 127)) wz rfl (h_op (vB (r_1 == 127)) wz rfl (h_nil ?_)))))
   obtain rfl := some_inj h_3
   exact cu
 ·rintro ⟨⟩ _ sl_ H_ hp_ hq_
  refine wH_at _ hp_ hq_ ?_
  obtain rfl := some_inj hF
  exact wH_ret (fin0 (.inr rfl) [(vB v_2)] ⟨rfl, trivial⟩ rfl rfl rfl)
theorem strings_ContainsFunc_cf237_ok {x : ByteArray} {r : Bool} (hF : strings_ContainsFunc_cf237 x = some r) :
  FnM Tryz.prog 236 [(.d (.str x)), (.fn 237 [])] [] (.d (.bool r)) [] :=
 containsFn_ok rfl (fun a b h => ref_Plain_1_ok h) hb237 (fun s p w eg hp => Tryz.strings_ContainsFunc_grows 237 #[] eg p s w hp) hF
theorem ref_Plain_ok {s_1 : ByteArray} {r : Bool} (hF : ref_Plain s_1 = some r) :
  FnM Tryz.prog 195 [(vS s_1)] [] (vB r) [] := by
 refine FnM.of_wH ⟨Tryz.prog, 21, [], []⟩ rfl Tryz.func195 rfl rfl (Nat.le_of_ble_eq_true rfl) (by kernel_rfl) ?_
 unfold ref_Plain at hF
 refine wH_seq (wH_region (h_op (vB false) wz rfl (h_nil (wH_seq ?_))))
 obtain ⟨v_2, h_3, hF⟩ := bind_some hF
 refine wH_join (β := Unit) (fun _ => ([(2, (vB v_2))] : List (Nat × V))) (fun _ => ([] : Hp)) (fun _ => True) ?_ ?_
 ·refine wH_region (h_op (vS s_1) wz rfl ?_)
  obtain ⟨r_4, hr_5, h_3⟩ := bind_some h_3
  refine h_call0 (unicode_utf8_ValidString_ok hr_5) rfl hb235 rfl rfl rfl rfl wz ?_
  rcases cond_some h_3 with ⟨hc_6, h_3⟩ | ⟨hc_6, h_3⟩
  ·refine h_movb rfl hc_6 wz (h_op (vS s_1) wa rfl ?_)
   obtain ⟨r_7, hr_8, h_3⟩ := bind_some h_3
   refine h_call0 (strings_ContainsFunc_cf237_ok hr_8) rfl hb236 rfl rfl rfl rfl wa (h_op (vB (!r_7)) wa rfl (h_op (vB (!r_7)) wz rfl ?_))
   rcases cond_some h_3 with ⟨hc_9, h_3⟩ | ⟨hc_9, h_3⟩
   ·refine h_movb rfl hc_9 wz (h_op (vS s_1) wa rfl ?_)
    obtain ⟨r_10, hr_11, h_3⟩ := bind_some h_3
    refine h_call0 (strings_Trim_ok hr_11) rfl hb238 rfl rfl rfl rfl wa (h_op (vS s_1) wa rfl (h_op (vB (sEq r_10 s_1)) wa rfl (h_op (vB (sEq r_10 s_1)) wz rfl ?_)))
    rcases cond_some h_3 with ⟨hc_12, h_3⟩ | ⟨hc_12, h_3⟩
    ·refine h_movb rfl hc_12 wz (h_op (vS s_1) wa rfl ?_)
     obtain ⟨r_13, hr_14, h_3⟩ := bind_some h_3
     refine h_call0 (strings_Contains_ok hr_14) rfl hb239 rfl rfl rfl rfl wa (h_op (vB (!r_13)) wa rfl (h_op (vB (!r_13)) wz rfl (h_op (vB (!r_13)) wz rfl (h_nil ?_))))
     obtain rfl := some_inj h_3
     exact cu
    ·refine h_movb rfl hc_12 wz (h_skip wa (h_skip wa (h_skip wa (h_op (vB false) wz rfl (h_op (vB false) wz rfl (h_nil ?_))))))
     obtain rfl := some_inj h_3
     exact cu
   ·refine h_movb rfl hc_9 wz (h_skip wa (h_skip wa (h_skip wa (h_skip wa (h_op (vB false) wz rfl (h_op (vB false) wz rfl (h_skip wa (h_skip wa (h_skip wa (h_op (vB false) wz rfl (h_op (vB false) wz rfl (h_nil ?_))))))))))))
    obtain rfl := some_inj h_3
    exact cu
  ·refine h_movb rfl hc_6 wz (h_skip wa (h_skip wa (h_skip wa (h_op (vB false) wz rfl (h_op (vB false) wz rfl (h_skip wa (h_skip wa (h_skip wa (h_skip wa (h_op (vB false) wz rfl (h_op (vB false) wz rfl (h_skip wa (h_skip wa (h_skip wa (h_op (vB false) wz rfl (h_op (vB false) wz rfl (h_nil ?_)))))))))))))))))
   obtain rfl := some_inj h_3
   exact cu
 ·rintro ⟨⟩ _ sl_ H_ hp_ hq_
  refine wH_at _ hp_ hq_ ?_
  obtain rfl := some_inj hF
  exact wH_ret (fin0 (.inr rfl) [(vB v_2)] ⟨rfl, trivial⟩ rfl rfl rfl)
theorem ref_alertFault_ok {a_1 : Alert} {r : Int} (hF : ref_alertFault a_1 = some r) :
  FnM Tryz.prog 119 [(.d (.agg (Alert.enc a_1)))] [] (vI r) [] := by
 refine FnM.of_wH ⟨Tryz.prog, 139, [], []⟩ rfl Tryz.func119 rfl rfl (Nat.le_of_ble_eq_true rfl) (by kernel_rfl) ?_
 unfold ref_alertFault at hF
 refine wH_seq (wH_region (h_box 0 (.inl rfl) [(vS a_1.Id), (vS a_1.Sender), (vI a_1.Kind), (vL eS a_1.Refs), (vI a_1.At), (vI a_1.Until), (vI a_1.Weight), (vL Rect.enc a_1.Areas), (vS a_1.Text)] rfl rfl wz (fun n_2 => h_op (vI 0) wz rfl (h_nil (wH_seq (wH_block (wH_seq ?_)))))))
 obtain ⟨v_3, h_4, hF⟩ := bind_some hF
 refine wH_join (β := Unit) (fun _ => ([(1, (.ref n_2 0 0)), (8, (vB v_3))] : List (Nat × V))) (fun _ => ([(n_2, some (.cells 9 [(vS a_1.Id), (vS a_1.Sender), (vI a_1.Kind), (vL eS a_1.Refs), (vI a_1.At), (vI a_1.Until), (vI a_1.Weight), (vL Rect.enc a_1.Areas), (vS a_1.Text)]))] : Hp)) (fun _ => True) ?_ ?_
 ·refine wH_region (h_far pl82_0 rfl 0 rfl wz (h_ldr 0 0 il ft sz9 ag9 rfl rfl (vS a_1.Id) rfl wz ?_))
  obtain ⟨r_5, hr_6, h_4⟩ := bind_some h_4
  refine h_call0 (ref_Key_ok hr_6) rfl hb121 rfl rfl rfl rfl wz (h_op (vB (!r_5)) wz rfl ?_)
  rcases cond_some h_4 with ⟨hc_7, h_4⟩ | ⟨hc_7, h_4⟩
  ·refine h_movb rfl hc_7 wz (h_skip wa (h_skip wa (h_skip wa (h_skip wa (h_op (vB true) wz rfl (h_op (vB true) wz rfl (h_nil ?_)))))))
   obtain rfl := some_inj h_4
   exact cu
  ·refine h_movb rfl hc_7 wz (h_far pl82_1 rfl 1 rfl wa (h_ldr 0 0 il ft sz9 ag9 rfl rfl (vS a_1.Sender) rfl wa ?_))
   obtain ⟨r_8, hr_9, h_4⟩ := bind_some h_4
   refine h_call0 (ref_Key_ok hr_9) rfl hb121 rfl rfl rfl rfl wa (h_op (vB (!r_8)) wa rfl (h_op (vB (!r_8)) wz rfl (h_op (vB (!r_8)) wz rfl (h_nil ?_))))
   obtain rfl := some_inj h_4
   exact cu
 ·rintro ⟨⟩ _ sl_ H_ hp_ hq_
  refine wH_at _ hp_ hq_ ?_
  rcases cond_some hF with ⟨hc_10, hF⟩ | ⟨hc_10, hF⟩
  ·refine wH_ift rfl hc_10 (wH_seq (wH_region (h_op (vI 5) wz rfl (h_nil ?_))))
   obtain rfl := some_inj hF
   exact wH_ret (fin0 (.inr rfl) [(vI 5)] ⟨rfl, trivial⟩ rfl rfl rfl)
  ·refine wH_iff rfl hc_10 (wH_seq (wH_region (h_far pl82_2 rfl 2 rfl wz (h_ldr 0 0 il ft sz3 ag3 rfl rfl (vI a_1.Kind) rfl wz ?_))))
   obtain ⟨r_11, hr_12, hF⟩ := bind_some hF
   refine h_call0 (ref_in_ok hr_12) rfl hb122 rfl rfl rfl rfl wz (h_op (vB (!r_11)) wz rfl (h_op (vB (!r_11)) wz rfl (h_nil ?_)))
   rcases cond_some hF with ⟨hc_13, hF⟩ | ⟨hc_13, hF⟩
   ·refine wH_ift rfl hc_13 (wH_seq (wH_region (h_op (vI 4) wz rfl (h_nil ?_))))
    obtain rfl := some_inj hF
    exact wH_ret (fin0 (.inr rfl) [(vI 4)] ⟨rfl, trivial⟩ rfl rfl rfl)
   ·refine wH_iff rfl hc_13 (wH_seq (wH_region (h_far pl82_3 rfl 3 rfl wz (h_ldr 0 0 il ft sz80 ag80 rfl rfl (vL eS a_1.Refs) rfl wz (h_len un80 rfl wz (h_op (vB (decide ((a_1.Refs.length : Int) > 20))) wz rfl (h_op (vB (decide ((a_1.Refs.length : Int) > 20))) wz rfl (h_nil ?_))))))))
    rcases cond_some hF with ⟨hc_14, hF⟩ | ⟨hc_14, hF⟩
    ·refine wH_ift rfl hc_14 (wH_seq (wH_region (h_op (vI 2) wz rfl (h_nil ?_))))
     obtain rfl := some_inj hF
     exact wH_ret (fin0 (.inr rfl) [(vI 2)] ⟨rfl, trivial⟩ rfl rfl rfl)
    ·refine wH_iff rfl hc_14 (wH_skip (wH_seq (wH_seq (wH_region (h_far pl82_3 rfl 3 rfl wz (h_ldr 0 0 il ft sz80 ag80 rfl rfl (vL eS a_1.Refs) rfl wz (h_len un80 rfl wz (h_op (vI 0) wz rfl (h_nil ?_)))))))))
     obtain ⟨o_23, hj_24, hF⟩ := bind_some hF
     obtain ⟨hn_19, hj_24⟩ := forL_some hj_24
     refine wH_join (β := (Unit)) (fun (s_20 : Unit) => ([(1, (.ref n_2 0 0))] : List (Nat × V))) (fun (s_20 : Unit) => ([(n_2, some (.cells 9 [(vS a_1.Id), (vS a_1.Sender), (vI a_1.Kind), (vL eS a_1.Refs), (vI a_1.At), (vI a_1.Until), (vI a_1.Weight), (vL Rect.enc a_1.Areas), (vS a_1.Text)]))] : Hp)) (fun p => o_23 = .go p) ?_ ?_
     ·refine wH_block (wH_loop (β := Nat × (List ByteArray) × (Unit)) (fun p => (fun (k_15 : Nat) (l_16 : List ByteArray) (s_20 : Unit) => ([(1, (.ref n_2 0 0)), (30, (vL eS a_1.Refs)), (31, (vI (a_1.Refs.length : Int))), (32, (vI (k_15 : Int)))] : List (Nat × V))) p.1 p.2.1 p.2.2) (fun p => (fun (k_15 : Nat) (l_16 : List ByteArray) (s_20 : Unit) => ([(n_2, some (.cells 9 [(vS a_1.Id), (vS a_1.Sender), (vI a_1.Kind), (vL eS a_1.Refs), (vI a_1.At), (vI a_1.Until), (vI a_1.Weight), (vL Rect.enc a_1.Areas), (vS a_1.Text)]))] : Hp)) p.1 p.2.1 p.2.2) (fun p => forR (fun k x s => ref_alertFault_L1 a_1 k x s) p.2.1 p.1 p.2.2 = some o_23 ∧ (a_1.Refs).drop p.1 = p.2.1) (fun p => p.2.1.length) (0, a_1.Refs, ()) ⟨hj_24, rfl⟩ rfl (pre_r rfl) ?_)
      rintro ⟨k_15, l_16, s_20⟩ ⟨hL_22, hD_18⟩
      dsimp only at hL_22 hD_18
      cases l_16 with
      | nil =>
       obtain rfl := some_inj hL_22
       refine wH_seq (wH_region (h_op (vB (decide ((k_15 : Int) < (a_1.Refs.length : Int)))) wz rfl (h_nil ?_)))
       refine wH_seq (wH_iff rfl (drop_nil hD_18) (wH_exit ?_))
       exact cut_mk (s_20) rfl rfl (pre_r rfl)
      | cons x_17 l_16 =>
       obtain ⟨c_, hc_21, hL_22⟩ := bind_some hL_22
       refine wH_seq (wH_region (h_op (vB (decide ((k_15 : Int) < (a_1.Refs.length : Int)))) wz rfl (h_nil ?_)))
       refine wH_seq (wH_ift rfl (drop_cons hD_18) (wH_skip ?_))
       unfold ref_alertFault_L1 at hc_21
       refine wH_seq (wH_block (wH_seq (wH_region (h_op (vI (k_15 : Int)) wz rfl (h_ia es80 rfl rfl (drop_idx hD_18) rfl wz (h_ldc sz9 ag9 rfl (vS x_17) rfl wz (h_op (vI (k_15 : Int)) wz rfl (h_op (vS x_17) wz rfl (h_nil (wH_block (wH_seq (wH_region (h_op (vS x_17) wz rfl ?_)))))))))))))
       obtain ⟨r_25, hr_26, hc_21⟩ := bind_some hc_21
       refine h_call0 (ref_Key_ok hr_26) rfl hb121 rfl rfl rfl rfl wz (h_op (vB (!r_25)) wz rfl (h_op (vB (!r_25)) wz rfl (h_nil ?_)))
       rcases cond_some hc_21 with ⟨hc_27, hc_21⟩ | ⟨hc_27, hc_21⟩
       ·refine wH_ift rfl hc_27 (wH_seq (wH_region (h_op (vI 5) wz rfl (h_nil ?_))))
        obtain rfl := some_inj hc_21
        obtain rfl := some_inj hL_22
        obtain rfl := some_inj hF
        exact wH_ret (fin0 (.inr rfl) [(vI 5)] ⟨rfl, trivial⟩ rfl rfl rfl)
       ·refine wH_iff rfl hc_27 (wH_seq ?_)
        obtain ⟨v_28, h_29, hc_21⟩ := bind_some hc_21
        refine wH_join (β := Unit) (fun _ => ([(1, (.ref n_2 0 0)), (4, (vS x_17)), (30, (vL eS a_1.Refs)), (31, (vI (a_1.Refs.length : Int))), (32, (vI (k_15 : Int))), (41, (vB v_28))] : List (Nat × V))) (fun _ => ([(n_2, some (.cells 9 [(vS a_1.Id), (vS a_1.Sender), (vI a_1.Kind), (vL eS a_1.Refs), (vI a_1.At), (vI a_1.Until), (vI a_1.Weight), (vL Rect.enc a_1.Areas), (vS a_1.Text)]))] : Hp)) (fun _ => True) ?_ ?_
        ·refine wH_region (h_op (vI (k_15 : Int)) wz rfl (h_op (vB (decide ((k_15 : Int) > 0))) wz rfl ?_))
         rcases cond_some h_29 with ⟨hc_30, h_29⟩ | ⟨hc_30, h_29⟩
         ·refine h_movb rfl hc_30 wz (h_op (vS x_17) wa rfl (h_far pl82_3 rfl 3 rfl wa (h_ldr 0 0 il ft sz80 ag80 rfl rfl (vL eS a_1.Refs) rfl wa (h_op (vI (k_15 : Int)) wa rfl (h_op (vI (w64 ((k_15 : Int) - 1))) wa rfl ?_)))))
          obtain ⟨y_31, hy_32, h_29⟩ := bind_some h_29
          refine h_ia es80 rfl rfl hy_32 rfl wa (h_ldc sz9 ag9 rfl (vS y_31) rfl wa (h_op (vB (sLe x_17 y_31)) wa rfl (h_op (vB (sLe x_17 y_31)) wz rfl (h_op (vB (sLe x_17 y_31)) wz rfl (h_nil ?_)))))
          obtain rfl := some_inj h_29
          exact cu
         ·refine h_movb rfl hc_30 wz (h_skip wa (h_skip wa (h_skip wa (h_skip wa (h_skip wa (h_skip wa (h_skip wa (h_skip wa (h_op (vB false) wz rfl (h_op (vB false) wz rfl (h_nil ?_)))))))))))
          obtain rfl := some_inj h_29
          exact cu
        ·rintro ⟨⟩ _ sl_ H_ hp_ hq_
         refine wH_at _ hp_ hq_ ?_
         rcases cond_some hc_21 with ⟨hc_33, hc_21⟩ | ⟨hc_33, hc_21⟩
         ·refine wH_ift rfl hc_33 (wH_seq (wH_region (h_op (vI 7) wz rfl (h_nil ?_))))
          obtain rfl := some_inj hc_21
          obtain rfl := some_inj hL_22
          obtain rfl := some_inj hF
          exact wH_ret (fin0 (.inr rfl) [(vI 7)] ⟨rfl, trivial⟩ rfl rfl rfl)
         ·refine wH_iff rfl hc_33 (wH_seq (wH_region (h_op (vS x_17) wz rfl (h_far pl82_0 rfl 0 rfl wz (h_ldr 0 0 il ft sz9 ag9 rfl rfl (vS a_1.Id) rfl wz (h_op (vB (sEq x_17 a_1.Id)) wz rfl (h_op (vB (sEq x_17 a_1.Id)) wz rfl (h_nil ?_))))))))
          rcases cond_some hc_21 with ⟨hc_34, hc_21⟩ | ⟨hc_34, hc_21⟩
          ·refine wH_ift rfl hc_34 (wH_seq (wH_region (h_op (vI 14) wz rfl (h_nil ?_))))
           obtain rfl := some_inj hc_21
           obtain rfl := some_inj hL_22
           obtain rfl := some_inj hF
           exact wH_ret (fin0 (.inr rfl) [(vI 14)] ⟨rfl, trivial⟩ rfl rfl rfl)
          ·refine wH_iff rfl hc_34 (wH_skip (wH_region (h_opw (w64_next hD_18 hn_19) wz rfl (h_op (vI ((k_15 + 1 : Nat) : Int)) wz rfl (h_nil ?_)))))
           obtain rfl := some_inj hc_21
           exact loop_mk (k_15 + 1, l_16, ()) ⟨hL_22, drop_next hD_18⟩ (Nat.lt_succ_self _) rfl (pre_r rfl)
     ·rintro s_20 ho_ sl_ H_ hp_ hq_
      subst ho_
      refine wH_at _ hp_ hq_ (wH_seq (wH_block (wH_seq (wH_region (h_far pl82_2 rfl 2 rfl wz (h_ldr 0 0 il ft sz3 ag3 rfl rfl (vI a_1.Kind) rfl wz (h_op (vB (a_1.Kind == 1)) wz rfl (h_far pl82_3 rfl 3 rfl wz (h_ldr 0 0 il ft sz80 ag80 rfl rfl (vL eS a_1.Refs) rfl wz (h_len un80 rfl wz (h_op (vB ((a_1.Refs.length : Int) == 0)) wz rfl (h_bneq un4 rfl rfl wz (h_op (vB (!((a_1.Kind == 1) == ((a_1.Refs.length : Int) == 0)))) wz rfl (h_nil ?_))))))))))))))
      rcases cond_some hF with ⟨hc_35, hF⟩ | ⟨hc_35, hF⟩
      ·refine wH_ift rfl hc_35 (wH_seq (wH_region (h_op (vI 3) wz rfl (h_nil ?_))))
       obtain rfl := some_inj hF
       exact wH_ret (fin0 (.inr rfl) [(vI 3)] ⟨rfl, trivial⟩ rfl rfl rfl)
      ·refine wH_iff rfl hc_35 (wH_seq ?_)
       obtain ⟨v_36, h_37, hF⟩ := bind_some hF
       refine wH_join (β := Unit) (fun _ => ([(1, (.ref n_2 0 0)), (69, (vB v_36))] : List (Nat × V))) (fun _ => ([(n_2, some (.cells 9 [(vS a_1.Id), (vS a_1.Sender), (vI a_1.Kind), (vL eS a_1.Refs), (vI a_1.At), (vI a_1.Until), (vI a_1.Weight), (vL Rect.enc a_1.Areas), (vS a_1.Text)]))] : Hp)) (fun _ => True) ?_ ?_
       ·refine wH_region (h_far pl82_4 rfl 4 rfl wz (h_ldr 0 0 il ft sz3 ag3 rfl rfl (vI a_1.At) rfl wz ?_))
        obtain ⟨r_38, hr_39, h_37⟩ := bind_some h_37
        refine h_call0 (ref_Moment_ok hr_39) rfl hb123 rfl rfl rfl rfl wz (h_op (vB (!r_38)) wz rfl ?_)
        rcases cond_some h_37 with ⟨hc_40, h_37⟩ | ⟨hc_40, h_37⟩
        ·refine h_movb rfl hc_40 wz (h_skip wa (h_skip wa (h_skip wa (h_skip wa (h_skip wa (h_skip wa (h_skip wa (h_skip wa (h_skip wa (h_skip wa (h_op (vB true) wz rfl (h_op (vB true) wz rfl (h_skip wa (h_skip wa (h_skip wa (h_skip wa (h_op (vB true) wz rfl (h_op (vB true) wz rfl (h_nil ?_)))))))))))))))))))
         obtain rfl := some_inj h_37
         exact cu
        ·refine h_movb rfl hc_40 wz (h_far pl82_5 rfl 5 rfl wa (h_ldr 0 0 il ft sz3 ag3 rfl rfl (vI a_1.Until) rfl wa (h_far pl82_4 rfl 4 rfl wa (h_ldr 0 0 il ft sz3 ag3 rfl rfl (vI a_1.At) rfl wa (h_op (vI (w64 (a_1.At + 1))) wa rfl (h_far pl82_4 rfl 4 rfl wa (h_ldr 0 0 il ft sz3 ag3 rfl rfl (vI a_1.At) rfl wa (h_op (vI (w64 (a_1.At + 2592000000))) wa rfl ?_))))))))
         obtain ⟨r_41, hr_42, h_37⟩ := bind_some h_37
         refine h_call0 (ref_in_ok hr_42) rfl hb122 rfl rfl rfl rfl wa (h_op (vB (!r_41)) wa rfl (h_op (vB (!r_41)) wz rfl ?_))
         rcases cond_some h_37 with ⟨hc_43, h_37⟩ | ⟨hc_43, h_37⟩
         ·refine h_movb rfl hc_43 wz (h_skip wa (h_skip wa (h_skip wa (h_skip wa (h_op (vB true) wz rfl (h_op (vB true) wz rfl (h_nil ?_)))))))
          obtain rfl := some_inj h_37
          exact cu
         ·refine h_movb rfl hc_43 wz (h_far pl82_6 rfl 6 rfl wa (h_ldr 0 0 il ft sz3 ag3 rfl rfl (vI a_1.Weight) rfl wa ?_))
          obtain ⟨r_44, hr_45, h_37⟩ := bind_some h_37
          refine h_call0 (ref_in_ok hr_45) rfl hb122 rfl rfl rfl rfl wa (h_op (vB (!r_44)) wa rfl (h_op (vB (!r_44)) wz rfl (h_op (vB (!r_44)) wz rfl (h_nil ?_))))
          obtain rfl := some_inj h_37
          exact cu
       ·rintro ⟨⟩ _ sl_ H_ hp_ hq_
        refine wH_at _ hp_ hq_ ?_
        rcases cond_some hF with ⟨hc_46, hF⟩ | ⟨hc_46, hF⟩
        ·refine wH_ift rfl hc_46 (wH_seq (wH_region (h_op (vI 1) wz rfl (h_nil ?_))))
         obtain rfl := some_inj hF
         exact wH_ret (fin0 (.inr rfl) [(vI 1)] ⟨rfl, trivial⟩ rfl rfl rfl)
        ·refine wH_iff rfl hc_46 (wH_seq (wH_region (h_far pl82_7 rfl 7 rfl wz (h_ldr 0 0 il ft sz50 ag50 rfl rfl (vL Rect.enc a_1.Areas) rfl wz (h_len un50 rfl wz (h_op (vB (decide ((a_1.Areas.length : Int) > 20))) wz rfl (h_op (vB (decide ((a_1.Areas.length : Int) > 20))) wz rfl (h_nil ?_))))))))
         rcases cond_some hF with ⟨hc_47, hF⟩ | ⟨hc_47, hF⟩
         ·refine wH_ift rfl hc_47 (wH_seq (wH_region (h_op (vI 2) wz rfl (h_nil ?_))))
          obtain rfl := some_inj hF
          exact wH_ret (fin0 (.inr rfl) [(vI 2)] ⟨rfl, trivial⟩ rfl rfl rfl)
         ·refine wH_iff rfl hc_47 (wH_skip (wH_seq (wH_seq (wH_region (h_far pl82_7 rfl 7 rfl wz (h_ldr 0 0 il ft sz50 ag50 rfl rfl (vL Rect.enc a_1.Areas) rfl wz (h_len un50 rfl wz (h_op (vI 0) wz rfl (h_nil ?_)))))))))
          obtain ⟨o_56, hj_57, hF⟩ := bind_some hF
          obtain ⟨hn_52, hj_57⟩ := forL_some hj_57
          refine wH_join (β := (Unit)) (fun (s_53 : Unit) => ([(1, (.ref n_2 0 0))] : List (Nat × V))) (fun (s_53 : Unit) => ([(n_2, some (.cells 9 [(vS a_1.Id), (vS a_1.Sender), (vI a_1.Kind), (vL eS a_1.Refs), (vI a_1.At), (vI a_1.Until), (vI a_1.Weight), (vL Rect.enc a_1.Areas), (vS a_1.Text)]))] : Hp)) (fun p => o_56 = .go p) ?_ ?_
          ·refine wH_block (wH_loop (β := Nat × (List Rect) × (Unit)) (fun p => (fun (k_48 : Nat) (l_49 : List Rect) (s_53 : Unit) => ([(1, (.ref n_2 0 0)), (98, (vL Rect.enc a_1.Areas)), (99, (vI (a_1.Areas.length : Int))), (100, (vI (k_48 : Int)))] : List (Nat × V))) p.1 p.2.1 p.2.2) (fun p => (fun (k_48 : Nat) (l_49 : List Rect) (s_53 : Unit) => ([(n_2, some (.cells 9 [(vS a_1.Id), (vS a_1.Sender), (vI a_1.Kind), (vL eS a_1.Refs), (vI a_1.At), (vI a_1.Until), (vI a_1.Weight), (vL Rect.enc a_1.Areas), (vS a_1.Text)]))] : Hp)) p.1 p.2.1 p.2.2) (fun p => forR (fun k x s => ref_alertFault_L2 k x s) p.2.1 p.1 p.2.2 = some o_56 ∧ (a_1.Areas).drop p.1 = p.2.1) (fun p => p.2.1.length) (0, a_1.Areas, ()) ⟨hj_57, rfl⟩ rfl (pre_r rfl) ?_)
           rintro ⟨k_48, l_49, s_53⟩ ⟨hL_55, hD_51⟩
           dsimp only at hL_55 hD_51
           cases l_49 with
           | nil =>
            obtain rfl := some_inj hL_55
            refine wH_seq (wH_region (h_op (vB (decide ((k_48 : Int) < (a_1.Areas.length : Int)))) wz rfl (h_nil ?_)))
            refine wH_seq (wH_iff rfl (drop_nil hD_51) (wH_exit ?_))
            exact cut_mk (s_53) rfl rfl (pre_r rfl)
           | cons x_50 l_49 =>
            obtain ⟨c_, hc_54, hL_55⟩ := bind_some hL_55
            refine wH_seq (wH_region (h_op (vB (decide ((k_48 : Int) < (a_1.Areas.length : Int)))) wz rfl (h_nil ?_)))
            refine wH_seq (wH_ift rfl (drop_cons hD_51) (wH_skip ?_))
            unfold ref_alertFault_L2 at hc_54
            refine wH_seq (wH_block (wH_seq (wH_region (h_ia es50 rfl rfl (drop_idx hD_51) rfl wz (h_ldc sz45 ag45 rfl (.d (.agg (Rect.enc x_50))) rfl wz (h_alloc 0 (.inl rfl) z45 rfl wz (fun n_58 => h_str 0 il ft 1 sz45 rfl rfl [(vI x_50.X), (vI x_50.Y), (vI x_50.W), (vI x_50.H)] rfl wz (h_nil (wH_seq (wH_region (h_ldr 0 1 il ft sz45 ag45 rfl rfl (.d (.agg (Rect.enc x_50))) rfl wz ?_)))))))))))
            obtain ⟨r_59, hr_60, hc_54⟩ := bind_some hc_54
            refine h_call0 (ref_RectFault_ok hr_60) rfl hb177 rfl rfl rfl rfl wz (h_op (vI r_59) wz rfl (h_nil (wH_seq (wH_region (h_op (vI r_59) wz rfl (h_op (vB (r_59 != 0)) wz rfl (h_nil ?_)))))))
            rcases cond_some hc_54 with ⟨hc_61, hc_54⟩ | ⟨hc_61, hc_54⟩
            ·refine wH_ift rfl hc_61 (wH_seq (wH_region (h_op (vI r_59) wz rfl (h_op (vI r_59) wz rfl (h_nil ?_)))))
             obtain rfl := some_inj hc_54
             obtain rfl := some_inj hL_55
             obtain rfl := some_inj hF
             exact wH_ret (fin0 (.inr rfl) [(vI r_59)] ⟨rfl, trivial⟩ rfl rfl rfl)
            ·refine wH_iff rfl hc_61 (wH_skip (wH_region (h_opw (w64_next hD_51 hn_52) wz rfl (h_op (vI ((k_48 + 1 : Nat) : Int)) wz rfl (h_nil ?_)))))
             obtain rfl := some_inj hc_54
             exact loop_mk (k_48 + 1, l_49, ()) ⟨hL_55, drop_next hD_51⟩ (Nat.lt_succ_self _) rfl (pre_r rfl)
          ·rintro s_53 ho_ sl_ H_ hp_ hq_
           subst ho_
           refine wH_at _ hp_ hq_ (wH_seq (wH_block (wH_seq (wH_region (h_far pl82_2 rfl 2 rfl wz (h_ldr 0 0 il ft sz3 ag3 rfl rfl (vI a_1.Kind) rfl wz (h_op (vB (a_1.Kind == 3)) wz rfl (h_far pl82_7 rfl 7 rfl wz (h_ldr 0 0 il ft sz50 ag50 rfl rfl (vL Rect.enc a_1.Areas) rfl wz (h_len un50 rfl wz (h_op (vB ((a_1.Areas.length : Int) == 0)) wz rfl (h_bneq un4 rfl rfl wz (h_op (vB (!((a_1.Kind == 3) == ((a_1.Areas.length : Int) == 0)))) wz rfl (h_nil ?_))))))))))))))
           rcases cond_some hF with ⟨hc_62, hF⟩ | ⟨hc_62, hF⟩
           ·refine wH_ift rfl hc_62 (wH_seq (wH_region (h_op (vI 3) wz rfl (h_nil ?_))))
            obtain rfl := some_inj hF
            exact wH_ret (fin0 (.inr rfl) [(vI 3)] ⟨rfl, trivial⟩ rfl rfl rfl)
           ·refine wH_iff rfl hc_62 (wH_seq (wH_region (h_far pl82_8 rfl 8 rfl wz (h_ldr 0 0 il ft sz9 ag9 rfl rfl (vS a_1.Text) rfl wz (h_lens un9 rfl wz (h_op (vB (decide ((a_1.Text.size : Int) > 500))) wz rfl (h_op (vB (decide ((a_1.Text.size : Int) > 500))) wz rfl (h_nil ?_))))))))
            rcases cond_some hF with ⟨hc_63, hF⟩ | ⟨hc_63, hF⟩
            ·refine wH_ift rfl hc_63 (wH_seq (wH_region (h_op (vI 2) wz rfl (h_nil ?_))))
             obtain rfl := some_inj hF
             exact wH_ret (fin0 (.inr rfl) [(vI 2)] ⟨rfl, trivial⟩ rfl rfl rfl)
            ·refine wH_iff rfl hc_63 (wH_seq ?_)
             obtain ⟨v_64, h_65, hF⟩ := bind_some hF
             refine wH_join (β := Unit) (fun _ => ([(124, (vB v_64))] : List (Nat × V))) (fun _ => ([(n_2, some (.cells 9 [(vS a_1.Id), (vS a_1.Sender), (vI a_1.Kind), (vL eS a_1.Refs), (vI a_1.At), (vI a_1.Until), (vI a_1.Weight), (vL Rect.enc a_1.Areas), (vS a_1.Text)]))] : Hp)) (fun _ => True) ?_ ?_
             ·refine wH_region (h_far pl82_8 rfl 8 rfl wz (h_ldr 0 0 il ft sz9 ag9 rfl rfl (vS a_1.Text) rfl wz ?_))
              obtain ⟨r_66, hr_67, h_65⟩ := bind_some h_65
              refine h_call0 (ref_Plain_ok hr_67) rfl hb195 rfl rfl rfl rfl wz (h_op (vB (!r_66)) wz rfl ?_)
              rcases cond_some h_65 with ⟨hc_68, h_65⟩ | ⟨hc_68, h_65⟩
              ·refine h_movb rfl hc_68 wz (h_skip wa (h_skip wa (h_skip wa (h_skip wa (h_skip (wn rfl rfl) (h_skip (wn rfl rfl) (h_skip (wn rfl rfl) (h_skip wa (h_op (vB true) wz rfl (h_op (vB true) wz rfl (h_nil ?_)))))))))))
               obtain rfl := some_inj h_65
               exact cu
              ·refine h_movb rfl hc_68 wz (h_far pl82_8 rfl 8 rfl wa (h_ldr 0 0 il ft sz9 ag9 rfl rfl (vS a_1.Text) rfl wa (h_op (vB (sEq a_1.Text (⟨#[]⟩ : ByteArray))) wa rfl ?_)))
               rcases cond_some h_65 with ⟨hc_69, h_65⟩ | ⟨hc_69, h_65⟩
               ·refine h_movb rfl hc_69 wa (h_far pl82_2 rfl 2 rfl wa (h_ldr 0 0 il ft sz3 ag3 rfl rfl (vI a_1.Kind) rfl wa (h_op (vB (a_1.Kind != 3)) wa rfl (h_op (vB (a_1.Kind != 3)) wa rfl (h_op (vB (a_1.Kind != 3)) wz rfl (h_op (vB (a_1.Kind != 3)) wz rfl (h_nil ?_)))))))
                obtain rfl := some_inj h_65
                exact cu
               ·refine h_movb rfl hc_69 wa (h_skip wa (h_skip wa (h_skip wa (h_op (vB false) wa rfl (h_op (vB false) wz rfl (h_op (vB false) wz rfl (h_nil ?_)))))))
                obtain rfl := some_inj h_65
                exact cu
             ·rintro ⟨⟩ _ sl_ H_ hp_ hq_
              refine wH_at _ hp_ hq_ ?_
              rcases cond_some hF with ⟨hc_70, hF⟩ | ⟨hc_70, hF⟩
              ·refine wH_ift rfl hc_70 (wH_seq (wH_region (h_op (vI 3) wz rfl (h_nil ?_))))
               obtain rfl := some_inj hF
               exact wH_ret (fin0 (.inr rfl) [(vI 3)] ⟨rfl, trivial⟩ rfl rfl rfl)
              ·refine wH_iff rfl hc_70 (wH_skip (wH_seq (wH_region (h_op (vI 0) wz rfl (h_nil ?_)))))
               obtain rfl := some_inj hF
               exact wH_ret (fin0 (.inr rfl) [(vI 0)] ⟨rfl, trivial⟩ rfl rfl rfl)
theorem ref_sign_ok {n_1 : Int} {r : Int} (hF : ref_sign n_1 = some r) :
  FnM Tryz.prog 158 [(vI n_1)] [] (vI r) [] := by
 refine FnM.of_wH ⟨Tryz.prog, 9, [], []⟩ rfl Tryz.func158 rfl rfl (Nat.le_of_ble_eq_true rfl) (by kernel_rfl) ?_
 unfold ref_sign at hF
 refine wH_seq (wH_region (h_op (vI 0) wz rfl (h_nil (wH_seq (wH_block (wH_seq (wH_region (h_op (vI n_1) wz rfl (h_op (vB (decide (n_1 < 0))) wz rfl (h_op (vB (decide (n_1 < 0))) wz rfl (h_nil ?_)))))))))))
 rcases cond_some hF with ⟨hc_2, hF⟩ | ⟨hc_2, hF⟩
 ·refine wH_ift rfl hc_2 (wH_seq (wH_region (h_op (vI (-1)) wz rfl (h_nil ?_))))
  obtain rfl := some_inj hF
  exact wH_ret (fin0 (.inr rfl) [(vI (-1))] ⟨rfl, trivial⟩ rfl rfl rfl)
 ·refine wH_iff rfl hc_2 (wH_seq (wH_region (h_op (vI n_1) wz rfl (h_op (vB (decide (n_1 > 0))) wz rfl (h_op (vB (decide (n_1 > 0))) wz rfl (h_nil ?_))))))
  rcases cond_some hF with ⟨hc_3, hF⟩ | ⟨hc_3, hF⟩
  ·refine wH_ift rfl hc_3 (wH_seq (wH_region (h_op (vI 1) wz rfl (h_nil ?_))))
   obtain rfl := some_inj hF
   exact wH_ret (fin0 (.inr rfl) [(vI 1)] ⟨rfl, trivial⟩ rfl rfl rfl)
  ·refine wH_iff rfl hc_3 (wH_skip (wH_seq (wH_region (h_op (vI 0) wz rfl (h_nil ?_)))))
   obtain rfl := some_inj hF
   exact wH_ret (fin0 (.inr rfl) [(vI 0)] ⟨rfl, trivial⟩ rfl rfl rfl)
theorem ref_alertOrder_ok {a_1 : Alert} {b_2 : Alert} {r : Int} (hF : ref_alertOrder a_1 b_2 = some r) :
  FnM Tryz.prog 120 [(.d (.agg (Alert.enc a_1))), (.d (.agg (Alert.enc b_2)))] [] (vI r) [] := by
 refine FnM.of_wH ⟨Tryz.prog, 21, [], []⟩ rfl Tryz.func120 rfl rfl (Nat.le_of_ble_eq_true rfl) (by kernel_rfl) ?_
 unfold ref_alertOrder at hF
 refine wH_seq (wH_region (h_box 0 (.inl rfl) [(vS a_1.Id), (vS a_1.Sender), (vI a_1.Kind), (vL eS a_1.Refs), (vI a_1.At), (vI a_1.Until), (vI a_1.Weight), (vL Rect.enc a_1.Areas), (vS a_1.Text)] rfl rfl wz (fun n_3 => h_box 0 (.inl rfl) [(vS b_2.Id), (vS b_2.Sender), (vI b_2.Kind), (vL eS b_2.Refs), (vI b_2.At), (vI b_2.Until), (vI b_2.Weight), (vL Rect.enc b_2.Areas), (vS b_2.Text)] rfl rfl wz (fun n_4 => h_op (vI 0) wz rfl (h_nil (wH_seq (wH_seq (wH_region (h_far pl82_4 rfl 4 rfl wz (h_ldr 0 0 il ft sz3 ag3 rfl rfl (vI a_1.At) rfl wz (h_far pl82_4 rfl 4 rfl wz (h_ldr 0 1 il ft sz3 ag3 rfl rfl (vI b_2.At) rfl wz (h_op (vB (a_1.At != b_2.At)) wz rfl (h_nil ?_))))))))))))))
 rcases cond_some hF with ⟨hc_5, hF⟩ | ⟨hc_5, hF⟩
 ·refine wH_ift rfl hc_5 (wH_seq (wH_region (h_far pl82_4 rfl 4 rfl wz (h_ldr 0 0 il ft sz3 ag3 rfl rfl (vI a_1.At) rfl wz (h_far pl82_4 rfl 4 rfl wz (h_ldr 0 1 il ft sz3 ag3 rfl rfl (vI b_2.At) rfl wz (h_op (vI (w64 (a_1.At - b_2.At))) wz rfl ?_)))))))
  obtain ⟨r_6, hr_7, hF⟩ := bind_some hF
  refine h_call0 (ref_sign_ok hr_7) rfl hb158 rfl rfl rfl rfl wz (h_op (vI r_6) wz rfl (h_nil ?_))
  obtain rfl := some_inj hF
  exact wH_ret (fin0 (.inr rfl) [(vI r_6)] ⟨rfl, trivial⟩ rfl rfl rfl)
 ·refine wH_iff rfl hc_5 (wH_skip (wH_seq (wH_region (h_far pl82_0 rfl 0 rfl wz (h_ldr 0 0 il ft sz9 ag9 rfl rfl (vS a_1.Id) rfl wz (h_far pl82_0 rfl 0 rfl wz (h_ldr 0 1 il ft sz9 ag9 rfl rfl (vS b_2.Id) rfl wz ?_)))))))
  obtain ⟨r_8, hr_9, hF⟩ := bind_some hF
  refine h_call0 (strings_Compare_ok hr_9) rfl hb129 rfl rfl rfl rfl wz (h_op (vI r_8) wz rfl (h_nil ?_))
  obtain rfl := some_inj hF
  exact wH_ret (fin0 (.inr rfl) [(vI r_8)] ⟨rfl, trivial⟩ rfl rfl rfl)
end Go.Proofs.YtpojeclokolkaaaGreatDoor.Law

