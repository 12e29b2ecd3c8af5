/-
 The machine computes these plain functions (written by a program of ours).
-/
import Derived.Test.YtjhcehhmdmbleaaGreatDoorFacts
import Derived.Test.YtjhcehhmdmbleaaGreatDoorDefs
import Derived.Test.YtjhcehhmdmbleaaGreatDoorPf1
import Derived.Test.YtjhcehhmdmbleaaGreatDoorShelf
open Go Go.Eng Go.Proofs
namespace Go.Proofs.YtjhcehhmdmbleaaGreatDoor.Law
set_option maxRecDepth 100000
set_option linter.unusedVariables false
set_option maxHeartbeats 1000000
theorem pJ {r_1:Rect} {r:Int} (hF:gu r_1=some r) :
  FnM Tryz.prog 73 [(.d (.agg (Rect.enc r_1)))] [] (vI r) []:=by
 refine FnM.of_wH ⟨Tryz.prog,25,[],[]⟩ rfl Tryz.func73 rfl rfl (Nat.le_of_ble_eq_true rfl) (by kernel_rfl) ?_
 unfold gu at hF
 refine af (aa (fB 0 (.inl rfl) [(vI r_1.X),(vI r_1.Y),(vI r_1.W),(vI r_1.H)] rfl rfl wz (fun n_2=>ae (vI 0) wz rfl (aj (af (af ?_))))))
 obtain ⟨v_3,h_4,hF⟩:=bind_some hF
 refine aD (β:=Unit) (fun _=>([(1,(.ref n_2 0 0)),(10,(vB v_3))]:List (Nat×V))) (fun _=>([(n_2,some (.cells 4 [(vI r_1.X),(vI r_1.Y),(vI r_1.W),(vI r_1.H)]))]:Hp)) (fun _=>True) ?_ ?_
 ·refine aa (aG yY rfl 0 rfl wz (aC 0 0 il ft sz3 ag3 rfl rfl (vI r_1.X) rfl wz ?_))
  obtain ⟨r_5,hr_6,h_4⟩:=bind_some h_4
  refine aF (aY hr_6) rfl pM rfl rfl rfl rfl wz ?_
  rcases ak h_4 with⟨hc_7,h_4⟩ | ⟨hc_7,h_4⟩
  ·refine av rfl hc_7 wz (ai wa (ai wa (ai wa (ae (vB true) wz rfl (aj ?_)))))
   obtain rfl:=ah h_4
   exact cu
  ·refine av rfl hc_7 wz (aG uI rfl 1 rfl wa (aC 0 0 il ft sz3 ag3 rfl rfl (vI r_1.Y) rfl wa ?_))
   obtain ⟨r_8,hr_9,h_4⟩:=bind_some h_4
   refine aF (aY hr_9) rfl pM rfl rfl rfl rfl wa (ae (vB r_8) wz rfl (aj ?_))
   obtain rfl:=ah h_4
   exact cu
 ·rintro ⟨⟩ _ sl_ H_ hp_ hq_
  refine aK _ hp_ hq_ ?_
  rcases ak hF with⟨hc_10,hF⟩ | ⟨hc_10,hF⟩
  ·refine ay rfl hc_10 (af (aa (ae (vI 1) wz rfl (aj ?_))))
   obtain rfl:=ah hF
   exact aB (aP (.inr rfl) [(vI 1)] ⟨rfl,trivial⟩ rfl rfl rfl)
  ·refine ax rfl hc_10 (au (af (af ?_)))
   obtain ⟨v_11,h_12,hF⟩:=bind_some hF
   refine aD (β:=Unit) (fun _=>([(24,(vB v_11))]:List (Nat×V))) (fun _=>([(n_2,some (.cells 4 [(vI r_1.X),(vI r_1.Y),(vI r_1.W),(vI r_1.H)]))]:Hp)) (fun _=>True) ?_ ?_
   ·refine aa (aG Ej rfl 2 rfl wz (aC 0 0 il ft sz3 ag3 rfl rfl (vI r_1.W) rfl wz (aG yY rfl 0 rfl wz (aC 0 0 il ft sz3 ag3 rfl rfl (vI r_1.X) rfl wz (ae (vI (w64 (100000 - r_1.X))) wz rfl ?_)))))
    obtain ⟨r_13,hr_14,h_12⟩:=bind_some h_12
    refine aF (aY hr_14) rfl pM rfl rfl rfl rfl wz ?_
    rcases ak h_12 with⟨hc_15,h_12⟩ | ⟨hc_15,h_12⟩
    ·refine av rfl hc_15 wz (ai wa (ai wa (ai wa (ai wa (ai wa (ai wa (ae (vB true) wz rfl (aj ?_))))))))
     obtain rfl:=ah h_12
     exact cu
    ·refine av rfl hc_15 wz (aG Ar rfl 3 rfl wa (aC 0 0 il ft sz3 ag3 rfl rfl (vI r_1.H) rfl wa (aG uI rfl 1 rfl wa (aC 0 0 il ft sz3 ag3 rfl rfl (vI r_1.Y) rfl wa (ae (vI (w64 (100000 - r_1.Y))) wa rfl ?_)))))
     obtain ⟨r_16,hr_17,h_12⟩:=bind_some h_12
     refine aF (aY hr_17) rfl pM rfl rfl rfl rfl wa (ae (vB r_16) wz rfl (aj ?_))
     obtain rfl:=ah h_12
     exact cu
   ·rintro ⟨⟩ _ sl_ H_ hp_ hq_
    refine aK _ hp_ hq_ ?_
    rcases ak hF with⟨hc_18,hF⟩ | ⟨hc_18,hF⟩
    ·refine ay rfl hc_18 (af (aa (ae (vI 1) wz rfl (aj ?_))))
     obtain rfl:=ah hF
     exact aB (aP (.inr rfl) [(vI 1)] ⟨rfl,trivial⟩ rfl rfl rfl)
    ·refine ax rfl hc_18 (au (af (aa (ae (vI 0) wz rfl (aj ?_)))))
     obtain rfl:=ah hF
     exact aB (aP (.inr rfl) [(vI 0)] ⟨rfl,trivial⟩ rfl rfl rfl)
theorem cz {s_1:ByteArray} {r:Int} (hF:bf s_1=some r) :
  FnM Tryz.prog 270 [(vS s_1)] [] (.d (.int .u64 r)) []:=by
 refine FnM.of_wH ⟨Tryz.prog,59,[],[]⟩ rfl Tryz.func270 rfl rfl (Nat.le_of_ble_eq_true rfl) (by kernel_rfl) ?_
 unfold bf at hF
 refine af (aa (ae (.d (.int .u64 0)) wz rfl (aj (af (ax rfl rfl (au (af (bA (ae (vS s_1) wz rfl ?_)))))))))
 obtain ⟨b_2,hy_3,hF⟩:=bind_some hF
 refine kz un9 rfl rfl hy_3 wz (mU un5 yl rfl wz (ae (vS s_1) wz rfl ?_))
 obtain ⟨b_4,hy_5,hF⟩:=bind_some hF
 refine kz un9 rfl rfl hy_5 wz (mU un5 yl rfl wz ?_)
 obtain ⟨q_6,hz_7,hF⟩:=bind_some hF
 refine zm rfl rfl hz_7 wz (ae (.d (.int .u64 (orI .u64 (IntKind.u64.wrap (b_2.toNat:Int)) q_6))) wz rfl (ae (vS s_1) wz rfl ?_))
 obtain ⟨b_8,hy_9,hF⟩:=bind_some hF
 refine kz un9 rfl rfl hy_9 wz (mU un5 yl rfl wz ?_)
 obtain ⟨q_10,hz_11,hF⟩:=bind_some hF
 refine zm rfl rfl hz_11 wz (ae (.d (.int .u64 (orI .u64 (orI .u64 (IntKind.u64.wrap (b_2.toNat:Int)) q_6) q_10))) wz rfl (ae (vS s_1) wz rfl ?_))
 obtain ⟨b_12,hy_13,hF⟩:=bind_some hF
 refine kz un9 rfl rfl hy_13 wz (mU un5 yl rfl wz ?_)
 obtain ⟨q_14,hz_15,hF⟩:=bind_some hF
 refine zm rfl rfl hz_15 wz (ae (.d (.int .u64 (orI .u64 (orI .u64 (orI .u64 (IntKind.u64.wrap (b_2.toNat:Int)) q_6) q_10) q_14))) wz rfl (ae (vS s_1) wz rfl ?_))
 obtain ⟨b_16,hy_17,hF⟩:=bind_some hF
 refine kz un9 rfl rfl hy_17 wz (mU un5 yl rfl wz ?_)
 obtain ⟨q_18,hz_19,hF⟩:=bind_some hF
 refine zm rfl rfl hz_19 wz (ae (.d (.int .u64 (orI .u64 (orI .u64 (orI .u64 (orI .u64 (IntKind.u64.wrap (b_2.toNat:Int)) q_6) q_10) q_14) q_18))) wz rfl (ae (vS s_1) wz rfl ?_))
 obtain ⟨b_20,hy_21,hF⟩:=bind_some hF
 refine kz un9 rfl rfl hy_21 wz (mU un5 yl rfl wz ?_)
 obtain ⟨q_22,hz_23,hF⟩:=bind_some hF
 refine zm rfl rfl hz_23 wz (ae (.d (.int .u64 (orI .u64 (orI .u64 (orI .u64 (orI .u64 (orI .u64 (IntKind.u64.wrap (b_2.toNat:Int)) q_6) q_10) q_14) q_18) q_22))) wz rfl (ae (vS s_1) wz rfl ?_))
 obtain ⟨b_24,hy_25,hF⟩:=bind_some hF
 refine kz un9 rfl rfl hy_25 wz (mU un5 yl rfl wz ?_)
 obtain ⟨q_26,hz_27,hF⟩:=bind_some hF
 refine zm rfl rfl hz_27 wz (ae (.d (.int .u64 (orI .u64 (orI .u64 (orI .u64 (orI .u64 (orI .u64 (orI .u64 (IntKind.u64.wrap (b_2.toNat:Int)) q_6) q_10) q_14) q_18) q_22) q_26))) wz rfl (ae (vS s_1) wz rfl ?_))
 obtain ⟨b_28,hy_29,hF⟩:=bind_some hF
 refine kz un9 rfl rfl hy_29 wz (mU un5 yl rfl wz ?_)
 obtain ⟨q_30,hz_31,hF⟩:=bind_some hF
 refine zm rfl rfl hz_31 wz (ae (.d (.int .u64 (orI .u64 (orI .u64 (orI .u64 (orI .u64 (orI .u64 (orI .u64 (orI .u64 (IntKind.u64.wrap (b_2.toNat:Int)) q_6) q_10) q_14) q_18) q_22) q_26) q_30))) wz rfl (ae (.d (.int .u64 (orI .u64 (orI .u64 (orI .u64 (orI .u64 (orI .u64 (orI .u64 (orI .u64 (IntKind.u64.wrap (b_2.toNat:Int)) q_6) q_10) q_14) q_18) q_22) q_26) q_30))) wz rfl (aj (aK (H0:=([]:Hp)) ([(2,(.d (.int .u64 (orI .u64 (orI .u64 (orI .u64 (orI .u64 (orI .u64 (orI .u64 (orI .u64 (IntKind.u64.wrap (b_2.toNat:Int)) q_6) q_10) q_14) q_18) q_22) q_26) q_30))))]:List (Nat×V)) (by kernel_rfl) (xk (by kernel_rfl)) ?_))))
 obtain rfl:=ah hF
 exact aB (aP (.inr rfl) [(.d (.int .u64 (orI .u64 (orI .u64 (orI .u64 (orI .u64 (orI .u64 (orI .u64 (orI .u64 (IntKind.u64.wrap (b_2.toNat:Int)) q_6) q_10) q_14) q_18) q_22) q_26) q_30)))] ⟨rfl,trivial⟩ rfl rfl rfl)
theorem pX {s_1:ByteArray} {r:Bool} (hF:eP s_1=some r) :
  FnM Tryz.prog 208 [(vS s_1)] [] (vB r) []:=by
 refine FnM.of_wH ⟨Tryz.prog,169,[],[]⟩ rfl Tryz.func208 rfl rfl (Nat.le_of_ble_eq_true rfl) (by kernel_rfl) ?_
 unfold eP at hF
 refine af (aa (ae (vB false) wz rfl (aj (af ?_))))
 obtain ⟨o_10,hj_11,hF⟩:=bind_some hF
 obtain ⟨nq_71,hj_11⟩:=dB hj_11
 refine aD (β:=(ByteArray)) (fun (s_7:ByteArray)=>([]:List (Nat×V))) (fun (s_7:ByteArray)=>([]:Hp)) (fun p=>o_10 = .go p) ?_ ?_
 ·refine aA (aV (β:=Nat×(ByteArray)) (fun p=>(fun (k_2:Nat) (s_7:ByteArray)=>([(0,(vS s_7))]:List (Nat×V))) p.1 p.2) (fun p=>(fun (k_2:Nat) (s_7:ByteArray)=>([]:Hp)) p.1 p.2) (fun p=>iterN (fun s=>dM s) p.1 p.2=some o_10) (fun p=>p.1) (nq_71,s_1) hj_11 rfl (aI rfl) ?_)
  rintro ⟨k_2,s_7⟩ hL_9
  dsimp only at hL_9
  cases k_2 with
  | zero=>cases hL_9
  | succ k_2 =>
   obtain ⟨c_,hc_8,hL_9⟩:=bind_some hL_9
   unfold dM at hc_8
   refine af (af (aa (ae (vS s_7) wz rfl (nU un9 rfl wz (ae (vB (decide ((s_7.size:Int) > 0))) wz rfl (aj ?_))))))
   rcases ak hc_8 with⟨hc_12,hc_8⟩ | ⟨hc_12,hc_8⟩
   ·refine ay rfl hc_12 (au (aA (af (aa (ae (vS s_7) wz rfl ?_)))))
    obtain ⟨b_13,hy_14,hc_8⟩:=bind_some hc_8
    refine kz un9 rfl rfl hy_14 wz (ae (.d (.int .u8 (b_13.toNat:Int))) wz rfl (aj (af (af (aa (ae (.d (.int .u8 (b_13.toNat:Int))) wz rfl (ae (vB (decide ((b_13.toNat:Int) < 128))) wz rfl (aj ?_))))))))
    rcases ak hc_8 with⟨hc_15,hc_8⟩ | ⟨hc_15,hc_8⟩
    ·refine ay rfl hc_15 (af (aa (ae (vS s_7) wz rfl ?_)))
     obtain ⟨y_16,hy_17,hc_8⟩:=bind_some hc_8
     refine fK un9 rfl rfl hy_17 wz (ae (vS y_16) wz rfl (aj (af (af ?_))))
     obtain ⟨v_18,h_19,hc_8⟩:=bind_some hc_8
     refine aD (β:=Unit) (fun _=>([(0,(vS y_16)),(24,(vB v_18))]:List (Nat×V))) (fun _=>([]:Hp)) (fun _=>True) ?_ ?_
     ·refine aa (ae (vS y_16) wz rfl (nU un9 rfl wz (ae (vB (decide ((y_16.size:Int) > 8))) wz rfl ?_)))
      rcases ak h_19 with⟨hc_20,h_19⟩ | ⟨hc_20,h_19⟩
      ·refine av rfl hc_20 wz (ae (vS y_16) wa rfl ?_)
       obtain ⟨r_21,hr_22,h_19⟩:=bind_some h_19
       refine aF (cz hr_22) rfl Ba rfl rfl rfl rfl wa (ae (.d (.int .u64 (tN .u64 r_21 9259542123273814144))) wa rfl (ae (vB ((tN .u64 r_21 9259542123273814144) == 0)) wa rfl (ae (vB ((tN .u64 r_21 9259542123273814144) == 0)) wz rfl (aj ?_))))
       obtain rfl:=ah h_19
       exact cu
      ·refine av rfl hc_20 wz (ai wa (ai wa (ai wa (ai wa (ae (vB false) wz rfl (aj ?_))))))
       obtain rfl:=ah h_19
       exact cu
     ·rintro ⟨⟩ _ sl_ H_ hp_ hq_
      refine aK _ hp_ hq_ ?_
      obtain ⟨v_23,h_24,hc_8⟩:=bind_some hc_8
      refine aD (β:=Unit) (fun _=>([(0,(vS v_23))]:List (Nat×V))) (fun _=>([]:Hp)) (fun _=>True) ?_ ?_
      ·rcases ak h_24 with⟨hc_25,h_24⟩ | ⟨hc_25,h_24⟩
       ·refine ay rfl hc_25 (af (aa (ae (vS y_16) wz rfl ?_)))
        obtain ⟨y_26,hy_27,h_24⟩:=bind_some h_24
        refine fK un9 rfl rfl hy_27 wz (ae (vS y_26) wz rfl (aj (af ?_)))
        obtain ⟨v_28,h_29,h_24⟩:=bind_some h_24
        refine aD (β:=Unit) (fun _=>([(0,(vS y_26)),(39,(vB v_28))]:List (Nat×V))) (fun _=>([]:Hp)) (fun _=>True) ?_ ?_
        ·refine bA (ae (vS y_26) wz rfl (nU un9 rfl wz (ae (vB (decide ((y_26.size:Int) > 16))) wz rfl ?_)))
         rcases ak h_29 with⟨hc_30,h_29⟩ | ⟨hc_30,h_29⟩
         ·refine av rfl hc_30 wz (ae (vS y_26) wa rfl ?_)
          obtain ⟨r_31,hr_32,h_29⟩:=bind_some h_29
          refine aF (cz hr_32) rfl Ba rfl rfl rfl rfl wa (ae (vS y_26) wa rfl ?_)
          obtain ⟨y_33,hy_34,h_29⟩:=bind_some h_29
          refine fK un9 rfl rfl hy_34 wa ?_
          obtain ⟨r_35,hr_36,h_29⟩:=bind_some h_29
          refine aF (cz hr_36) rfl Ba rfl rfl rfl rfl wa (ae (.d (.int .u64 (orI .u64 r_31 r_35))) wa rfl (ae (.d (.int .u64 (tN .u64 (orI .u64 r_31 r_35) 9259542123273814144))) wa rfl (ae (vB ((tN .u64 (orI .u64 r_31 r_35) 9259542123273814144) == 0)) wa rfl (ae (vB ((tN .u64 (orI .u64 r_31 r_35) 9259542123273814144) == 0)) wz rfl (aj ?_)))))
          obtain rfl:=ah h_29
          exact cu
         ·refine av rfl hc_30 wz (ai wa (ai wa (ai wa (ai wa (ai wa (ai wa (ai wa (ai wa (ae (vB false) wz rfl (aj ?_))))))))))
          obtain rfl:=ah h_29
          exact cu
        ·rintro ⟨⟩ _ sl_ H_ hp_ hq_
         refine aK _ hp_ hq_ ?_
         rcases ak h_24 with⟨hc_37,h_24⟩ | ⟨hc_37,h_24⟩
         ·refine ay rfl hc_37 (af (aa (ae (vS y_26) wz rfl ?_)))
          obtain ⟨y_38,hy_39,h_24⟩:=bind_some h_24
          refine fK un9 rfl rfl hy_39 wz (ae (vS y_38) wz rfl (aj ?_))
          obtain ⟨o_48,hj_49,h_24⟩:=bind_some h_24
          obtain ⟨nq_70,hj_49⟩:=dB hj_49
          refine aD (β:=(ByteArray)) (fun (s_45:ByteArray)=>([(0,(vS s_45))]:List (Nat×V))) (fun (s_45:ByteArray)=>([]:Hp)) (fun p=>o_48 = .go p) ?_ ?_
          ·refine aA (aV (β:=Nat×(ByteArray)) (fun p=>(fun (k_40:Nat) (s_45:ByteArray)=>([(0,(vS s_45))]:List (Nat×V))) p.1 p.2) (fun p=>(fun (k_40:Nat) (s_45:ByteArray)=>([]:Hp)) p.1 p.2) (fun p=>iterN (fun s=>fF s) p.1 p.2=some o_48) (fun p=>p.1) (nq_70,y_38) hj_49 rfl (aI rfl) ?_)
           rintro ⟨k_40,s_45⟩ hL_47
           dsimp only at hL_47
           cases k_40 with
           | zero=>cases hL_47
           | succ k_40 =>
            obtain ⟨c_,hc_46,hL_47⟩:=bind_some hL_47
            unfold fF at hc_46
            refine af (af ?_)
            obtain ⟨v_50,h_51,hc_46⟩:=bind_some hc_46
            refine aD (β:=Unit) (fun _=>([(0,(vS s_45)),(62,(vB v_50))]:List (Nat×V))) (fun _=>([]:Hp)) (fun _=>True) ?_ ?_
            ·refine bA (ae (vS s_45) wz rfl (nU un9 rfl wz (ae (vB (decide ((s_45.size:Int) > 32))) wz rfl ?_)))
             rcases ak h_51 with⟨hc_52,h_51⟩ | ⟨hc_52,h_51⟩
             ·refine av rfl hc_52 wz (ae (vS s_45) wa rfl ?_)
              obtain ⟨r_53,hr_54,h_51⟩:=bind_some h_51
              refine aF (cz hr_54) rfl Ba rfl rfl rfl rfl wa (ae (vS s_45) wa rfl ?_)
              obtain ⟨y_55,hy_56,h_51⟩:=bind_some h_51
              refine fK un9 rfl rfl hy_56 wa ?_
              obtain ⟨r_57,hr_58,h_51⟩:=bind_some h_51
              refine aF (cz hr_58) rfl Ba rfl rfl rfl rfl wa (ae (.d (.int .u64 (orI .u64 r_53 r_57))) wa rfl (ae (vS s_45) wa rfl ?_))
              obtain ⟨y_59,hy_60,h_51⟩:=bind_some h_51
              refine fK un9 rfl rfl hy_60 wa ?_
              obtain ⟨r_61,hr_62,h_51⟩:=bind_some h_51
              refine aF (cz hr_62) rfl Ba rfl rfl rfl rfl wa (ae (vS s_45) wa rfl ?_)
              obtain ⟨y_63,hy_64,h_51⟩:=bind_some h_51
              refine fK un9 rfl rfl hy_64 wa ?_
              obtain ⟨r_65,hr_66,h_51⟩:=bind_some h_51
              refine aF (cz hr_66) rfl Ba rfl rfl rfl rfl wa (ae (.d (.int .u64 (orI .u64 r_61 r_65))) wa rfl (ae (.d (.int .u64 (orI .u64 (orI .u64 r_53 r_57) (orI .u64 r_61 r_65)))) wa rfl (ae (.d (.int .u64 (tN .u64 (orI .u64 (orI .u64 r_53 r_57) (orI .u64 r_61 r_65)) 9259542123273814144))) wa rfl (ae (vB ((tN .u64 (orI .u64 (orI .u64 r_53 r_57) (orI .u64 r_61 r_65)) 9259542123273814144) == 0)) wa rfl (ae (vB ((tN .u64 (orI .u64 (orI .u64 r_53 r_57) (orI .u64 r_61 r_65)) 9259542123273814144) == 0)) wz rfl (aj ?_))))))
              obtain rfl:=ah h_51
              exact cu
             ·refine av rfl hc_52 wz (ai wa (ai wa (ai wa (ai wa (ai wa (ai wa (ai wa (ai wa (ai wa (ai wa (ai wa (ai wa (ai wa (ai wa (ai wa (ai wa (ae (vB false) wz rfl (aj ?_))))))))))))))))))
              obtain rfl:=ah h_51
              exact cu
            ·rintro ⟨⟩ _ sl_ H_ hp_ hq_
             refine aK _ hp_ hq_ ?_
             rcases ak hc_46 with⟨hc_67,hc_46⟩ | ⟨hc_67,hc_46⟩
             ·refine ay rfl hc_67 (au (aA (aa (ae (vS s_45) wz rfl ?_))))
              obtain ⟨y_68,hy_69,hc_46⟩:=bind_some hc_46
              refine fK un9 rfl rfl hy_69 wz (ae (vS y_68) wz rfl (aj ?_))
              obtain rfl:=ah hc_46
              exact aU (k_40,y_68) hL_47 (Nat.lt_succ_self _) rfl (aI rfl)
             ·refine ax rfl hc_67 (aS ?_)
              obtain rfl:=ah hc_46
              obtain rfl:=ah hL_47
              exact aO (s_45) rfl rfl (aI rfl)
          ·rintro s_45 ho_ sl_ H_ hp_ hq_
           subst ho_
           obtain rfl:=ah h_24
           exact aO () trivial (Iw [0] hp_ rfl) (JP hq_ (aI rfl))
         ·refine ax rfl hc_37 (au ?_)
          obtain rfl:=ah h_24
          exact cu
       ·refine ax rfl hc_25 (au ?_)
        obtain rfl:=ah h_24
        exact cu
      ·rintro ⟨⟩ _ sl_ H_ hp_ hq_
       refine aK _ hp_ hq_ (aS ?_)
       obtain rfl:=ah hc_8
       exact aU (k_2,v_23) hL_9 (Nat.lt_succ_self _) rfl (aI rfl)
    ·refine ax rfl hc_15 (au (af (aa (ae (.d (.int .u8 (b_13.toNat:Int))) wz rfl ?_))))
     cases hc_8
   ·refine ax rfl hc_12 (aS ?_)
    obtain rfl:=ah hc_8
    obtain rfl:=ah hL_9
    exact aO (s_7) rfl rfl (aI rfl)
 ·rintro s_7 ho_ sl_ H_ hp_ hq_
  subst ho_
  refine aK _ hp_ hq_ (af (aa (ae (vB true) wz rfl (aj ?_))))
  obtain rfl:=ah hF
  exact aB (aP (.inr rfl) [(vB true)] ⟨rfl,trivial⟩ rfl rfl rfl)
theorem rA {s_1:ByteArray} {c_2:Int} {r:ByteArray} (hF:strings_trimRightByte s_1 c_2=some r) :
  FnM Tryz.prog 273 [(vS s_1),(.d (.int .u8 c_2))] [] (vS r) []:=by
 refine FnM.of_wH ⟨Tryz.prog,23,[],[]⟩ rfl Tryz.func273 rfl rfl (Nat.le_of_ble_eq_true rfl) (by kernel_rfl) ?_
 unfold strings_trimRightByte at hF
 refine af (aa (ae (vS (⟨#[]⟩:ByteArray)) wz rfl (aj (af ?_))))
 obtain ⟨o_11,hj_12,hF⟩:=bind_some hF
 obtain ⟨nq_21,hj_12⟩:=dB hj_12
 refine aD (β:=(ByteArray)) (fun (s_8:ByteArray)=>([(0,(vS s_8))]:List (Nat×V))) (fun (s_8:ByteArray)=>([]:Hp)) (fun p=>o_11 = .go p) ?_ ?_
 ·refine aA (aV (β:=Nat×(ByteArray)) (fun p=>(fun (k_3:Nat) (s_8:ByteArray)=>([(0,(vS s_8)),(1,(.d (.int .u8 c_2)))]:List (Nat×V))) p.1 p.2) (fun p=>(fun (k_3:Nat) (s_8:ByteArray)=>([]:Hp)) p.1 p.2) (fun p=>iterN (fun s=>gK c_2 s) p.1 p.2=some o_11) (fun p=>p.1) (nq_21,s_1) hj_12 rfl (aI rfl) ?_)
  rintro ⟨k_3,s_8⟩ hL_10
  dsimp only at hL_10
  cases k_3 with
  | zero=>cases hL_10
  | succ k_3 =>
   obtain ⟨c_,hc_9,hL_10⟩:=bind_some hL_10
   unfold gK at hc_9
   refine af (af ?_)
   obtain ⟨v_13,h_14,hc_9⟩:=bind_some hc_9
   refine aD (β:=Unit) (fun _=>([(0,(vS s_8)),(1,(.d (.int .u8 c_2))),(16,(vB v_13))]:List (Nat×V))) (fun _=>([]:Hp)) (fun _=>True) ?_ ?_
   ·refine aa (ae (vS s_8) wz rfl (nU un9 rfl wz (ae (vB (decide ((s_8.size:Int) > 0))) wz rfl ?_)))
    rcases ak h_14 with⟨hc_15,h_14⟩ | ⟨hc_15,h_14⟩
    ·refine av rfl hc_15 wz (ae (vS s_8) wa rfl (ae (vS s_8) wa rfl (nU un9 rfl wa (ae (vI (w64 ((s_8.size:Int) - 1))) wa rfl ?_))))
     obtain ⟨b_16,hy_17,h_14⟩:=bind_some h_14
     refine kz un9 rfl rfl hy_17 wa (ae (.d (.int .u8 c_2)) wa rfl (ae (vB ((b_16.toNat:Int) == c_2)) wa rfl (ae (vB ((b_16.toNat:Int) == c_2)) wz rfl (aj ?_))))
     obtain rfl:=ah h_14
     exact cu
    ·refine av rfl hc_15 wz (ai wa (ai wa (ai wa (ai wa (ai wa (ai wa (ai wa (ae (vB false) wz rfl (aj ?_)))))))))
     obtain rfl:=ah h_14
     exact cu
   ·rintro ⟨⟩ _ sl_ H_ hp_ hq_
    refine aK _ hp_ hq_ ?_
    rcases ak hc_9 with⟨hc_18,hc_9⟩ | ⟨hc_18,hc_9⟩
    ·refine ay rfl hc_18 (au (aA (aa (ae (vS s_8) wz rfl (ae (vS s_8) wz rfl (nU un9 rfl wz (ae (vI (w64 ((s_8.size:Int) - 1))) wz rfl ?_)))))))
     obtain ⟨y_19,hy_20,hc_9⟩:=bind_some hc_9
     refine AB un9 rfl rfl hy_20 wz (ae (vS y_19) wz rfl (aj ?_))
     obtain rfl:=ah hc_9
     exact aU (k_3,y_19) hL_10 (Nat.lt_succ_self _) rfl (aI rfl)
    ·refine ax rfl hc_18 (aS ?_)
     obtain rfl:=ah hc_9
     obtain rfl:=ah hL_10
     exact aO (s_8) rfl rfl (aI rfl)
 ·rintro s_8 ho_ sl_ H_ hp_ hq_
  subst ho_
  refine aK _ hp_ hq_ (af (aa (ae (vS s_8) wz rfl (ae (vS s_8) wz rfl (aj ?_)))))
  obtain rfl:=ah hF
  exact aB (aP (.inr rfl) [(vS s_8)] ⟨rfl,trivial⟩ rfl rfl rfl)
theorem sG {s_1:ByteArray} {c_2:Int} {r:ByteArray} (hF:strings_trimLeftByte s_1 c_2=some r) :
  FnM Tryz.prog 272 [(vS s_1),(.d (.int .u8 c_2))] [] (vS r) []:=by
 refine FnM.of_wH ⟨Tryz.prog,17,[],[]⟩ rfl Tryz.func272 rfl rfl (Nat.le_of_ble_eq_true rfl) (by kernel_rfl) ?_
 unfold strings_trimLeftByte at hF
 refine af (aa (ae (vS (⟨#[]⟩:ByteArray)) wz rfl (aj (af ?_))))
 obtain ⟨o_11,hj_12,hF⟩:=bind_some hF
 obtain ⟨nq_21,hj_12⟩:=dB hj_12
 refine aD (β:=(ByteArray)) (fun (s_8:ByteArray)=>([(0,(vS s_8))]:List (Nat×V))) (fun (s_8:ByteArray)=>([]:Hp)) (fun p=>o_11 = .go p) ?_ ?_
 ·refine aA (aV (β:=Nat×(ByteArray)) (fun p=>(fun (k_3:Nat) (s_8:ByteArray)=>([(0,(vS s_8)),(1,(.d (.int .u8 c_2)))]:List (Nat×V))) p.1 p.2) (fun p=>(fun (k_3:Nat) (s_8:ByteArray)=>([]:Hp)) p.1 p.2) (fun p=>iterN (fun s=>gY c_2 s) p.1 p.2=some o_11) (fun p=>p.1) (nq_21,s_1) hj_12 rfl (aI rfl) ?_)
  rintro ⟨k_3,s_8⟩ hL_10
  dsimp only at hL_10
  cases k_3 with
  | zero=>cases hL_10
  | succ k_3 =>
   obtain ⟨c_,hc_9,hL_10⟩:=bind_some hL_10
   unfold gY at hc_9
   refine af (af ?_)
   obtain ⟨v_13,h_14,hc_9⟩:=bind_some hc_9
   refine aD (β:=Unit) (fun _=>([(0,(vS s_8)),(1,(.d (.int .u8 c_2))),(13,(vB v_13))]:List (Nat×V))) (fun _=>([]:Hp)) (fun _=>True) ?_ ?_
   ·refine aa (ae (vS s_8) wz rfl (nU un9 rfl wz (ae (vB (decide ((s_8.size:Int) > 0))) wz rfl ?_)))
    rcases ak h_14 with⟨hc_15,h_14⟩ | ⟨hc_15,h_14⟩
    ·refine av rfl hc_15 wz (ae (vS s_8) wa rfl ?_)
     obtain ⟨b_16,hy_17,h_14⟩:=bind_some h_14
     refine kz un9 rfl rfl hy_17 wa (ae (.d (.int .u8 c_2)) wa rfl (ae (vB ((b_16.toNat:Int) == c_2)) wa rfl (ae (vB ((b_16.toNat:Int) == c_2)) wz rfl (aj ?_))))
     obtain rfl:=ah h_14
     exact cu
    ·refine av rfl hc_15 wz (ai wa (ai wa (ai wa (ai wa (ae (vB false) wz rfl (aj ?_))))))
     obtain rfl:=ah h_14
     exact cu
   ·rintro ⟨⟩ _ sl_ H_ hp_ hq_
    refine aK _ hp_ hq_ ?_
    rcases ak hc_9 with⟨hc_18,hc_9⟩ | ⟨hc_18,hc_9⟩
    ·refine ay rfl hc_18 (au (aA (aa (ae (vS s_8) wz rfl ?_))))
     obtain ⟨y_19,hy_20,hc_9⟩:=bind_some hc_9
     refine fK un9 rfl rfl hy_20 wz (ae (vS y_19) wz rfl (aj ?_))
     obtain rfl:=ah hc_9
     exact aU (k_3,y_19) hL_10 (Nat.lt_succ_self _) rfl (aI rfl)
    ·refine ax rfl hc_18 (aS ?_)
     obtain rfl:=ah hc_9
     obtain rfl:=ah hL_10
     exact aO (s_8) rfl rfl (aI rfl)
 ·rintro s_8 ho_ sl_ H_ hp_ hq_
  subst ho_
  refine aK _ hp_ hq_ (af (aa (ae (vS s_8) wz rfl (ae (vS s_8) wz rfl (aj ?_)))))
  obtain rfl:=ah hF
  exact aB (aP (.inr rfl) [(vS s_8)] ⟨rfl,trivial⟩ rfl rfl rfl)
theorem zy {s_1:ByteArray} {cutset_2:ByteArray} {r:ByteArray} (hF:ni s_1 cutset_2=some r) :
  FnM Tryz.prog 211 [(vS s_1),(vS cutset_2)] [] (vS r) []:=by
 refine FnM.of_wH ⟨Tryz.prog,43,[],[]⟩ rfl Tryz.func211 rfl rfl (Nat.le_of_ble_eq_true rfl) (by kernel_rfl) ?_
 unfold ni at hF
 refine af (aa (ae (vS (⟨#[]⟩:ByteArray)) wz rfl (aj (af (af ?_)))))
 obtain ⟨v_3,h_4,hF⟩:=bind_some hF
 refine aD (β:=Unit) (fun _=>([(0,(vS s_1)),(1,(vS cutset_2)),(12,(vB v_3))]:List (Nat×V))) (fun _=>([]:Hp)) (fun _=>True) ?_ ?_
 ·refine aa (ae (vS s_1) wz rfl (ae (vB (sEq s_1 (⟨#[]⟩:ByteArray))) wz rfl ?_))
  rcases ak h_4 with⟨hc_5,h_4⟩ | ⟨hc_5,h_4⟩
  ·refine av rfl hc_5 wz (ai wa (ai wa (ae (vB true) wz rfl (aj ?_))))
   obtain rfl:=ah h_4
   exact cu
  ·refine av rfl hc_5 wz (ae (vS cutset_2) wa rfl (ae (vB (sEq cutset_2 (⟨#[]⟩:ByteArray))) wa rfl (ae (vB (sEq cutset_2 (⟨#[]⟩:ByteArray))) wz rfl (aj ?_))))
   obtain rfl:=ah h_4
   exact cu
 ·rintro ⟨⟩ _ sl_ H_ hp_ hq_
  refine aK _ hp_ hq_ ?_
  rcases ak hF with⟨hc_6,hF⟩ | ⟨hc_6,hF⟩
  ·refine ay rfl hc_6 (af (aa (ae (vS s_1) wz rfl (ae (vS s_1) wz rfl (aj ?_)))))
   obtain rfl:=ah hF
   exact aB (aP (.inr rfl) [(vS s_1)] ⟨rfl,trivial⟩ rfl rfl rfl)
  ·refine ax rfl hc_6 (au (af (af ?_)))
   obtain ⟨v_7,h_8,hF⟩:=bind_some hF
   refine aD (β:=Unit) (fun _=>([(0,(vS s_1)),(1,(vS cutset_2)),(21,(vB v_7))]:List (Nat×V))) (fun _=>([]:Hp)) (fun _=>True) ?_ ?_
   ·refine aa (ae (vS cutset_2) wz rfl (nU un9 rfl wz (ae (vB ((cutset_2.size:Int) == 1)) wz rfl ?_)))
    rcases ak h_8 with⟨hc_9,h_8⟩ | ⟨hc_9,h_8⟩
    ·refine av rfl hc_9 wz (ae (vS cutset_2) wa rfl ?_)
     obtain ⟨b_10,hy_11,h_8⟩:=bind_some h_8
     refine kz un9 rfl rfl hy_11 wa (ae (vB (decide ((b_10.toNat:Int) < 128))) wa rfl (ae (vB (decide ((b_10.toNat:Int) < 128))) wz rfl (aj ?_)))
     obtain rfl:=ah h_8
     exact cu
    ·refine av rfl hc_9 wz (ai wa (ai wa (ai wa (ae (vB false) wz rfl (aj ?_)))))
     obtain rfl:=ah h_8
     exact cu
   ·rintro ⟨⟩ _ sl_ H_ hp_ hq_
    refine aK _ hp_ hq_ ?_
    rcases ak hF with⟨hc_12,hF⟩ | ⟨hc_12,hF⟩
    ·refine ay rfl hc_12 (af (bA (ae (vS s_1) wz rfl (ae (vS cutset_2) wz rfl ?_))))
     obtain ⟨b_13,hy_14,hF⟩:=bind_some hF
     refine kz un9 rfl rfl hy_14 wz ?_
     obtain ⟨r_15,hr_16,hF⟩:=bind_some hF
     refine aF (rA hr_16) rfl hb273 rfl rfl rfl rfl wz (ae (vS cutset_2) wz rfl ?_)
     obtain ⟨b_17,hy_18,hF⟩:=bind_some hF
     refine kz un9 rfl rfl hy_18 wz ?_
     obtain ⟨r_19,hr_20,hF⟩:=bind_some hF
     refine aF (sG hr_20) rfl hb272 rfl rfl rfl rfl wz (ae (vS r_19) wz rfl (aj ?_))
     obtain rfl:=ah hF
     exact aB (aP (.inr rfl) [(vS r_19)] ⟨rfl,trivial⟩ rfl rfl rfl)
    ·refine ax rfl hc_12 (au (af (af (aa (ae (vS cutset_2) wz rfl ?_)))))
     cases hF
theorem wh {x0:ByteArray} {x1:ByteArray} {r:Bool} (hF:strings_Contains x0 x1=some r) :
  FnM Tryz.prog 212 [(vS x0),(vS x1)] [] (vB r) [] :=
 E8 Tryz.strings_Contains FE hF
theorem Be {s_1:ByteArray} {r:Bool} (hF:lu s_1=some r) :
  FnM Tryz.prog 269 [(vS s_1)] [] (vB r) []:=by
 refine FnM.of_wH ⟨Tryz.prog,33,[],[]⟩ rfl Tryz.func269 rfl rfl (Nat.le_of_ble_eq_true rfl) (by kernel_rfl) ?_
 unfold lu at hF
 refine af (aa (ae (vB false) wz rfl (aj (af (af (aa (ae (vI 0) wz rfl (aj ?_))))))))
 obtain ⟨o_10,hj_11,hF⟩:=bind_some hF
 obtain ⟨nq_31,hj_11⟩:=dB hj_11
 refine aD (β:=(Int)) (fun (s_7:Int)=>([(0,(vS s_1))]:List (Nat×V))) (fun (s_7:Int)=>([]:Hp)) (fun p=>o_10 = .go p) ?_ ?_
 ·refine aA (aV (β:=Nat×(Int)) (fun p=>(fun (k_2:Nat) (s_7:Int)=>([(0,(vS s_1)),(3,(vI s_7))]:List (Nat×V))) p.1 p.2) (fun p=>(fun (k_2:Nat) (s_7:Int)=>([]:Hp)) p.1 p.2) (fun p=>iterN (fun s=>nD s_1 s) p.1 p.2=some o_10) (fun p=>p.1) (nq_31,0) hj_11 rfl (aI rfl) ?_)
  rintro ⟨k_2,s_7⟩ hL_9
  dsimp only at hL_9
  cases k_2 with
  | zero=>cases hL_9
  | succ k_2 =>
   obtain ⟨c_,hc_8,hL_9⟩:=bind_some hL_9
   unfold nD at hc_8
   refine af (af (aa (ae (vI s_7) wz rfl (ae (vS s_1) wz rfl (nU un9 rfl wz (ae (vB (decide (s_7 < (s_1.size:Int)))) wz rfl (aj ?_)))))))
   rcases ak hc_8 with⟨hc_12,hc_8⟩ | ⟨hc_12,hc_8⟩
   ·refine ay rfl hc_12 (au (af (aA (af ?_))))
    obtain ⟨v_13,h_14,hc_8⟩:=bind_some hc_8
    refine aD (β:=Unit) (fun _=>([(0,(vS s_1)),(3,(vI s_7)),(19,(vB v_13))]:List (Nat×V))) (fun _=>([]:Hp)) (fun _=>True) ?_ ?_
    ·refine aa (ae (vS s_1) wz rfl (ae (vI s_7) wz rfl ?_))
     obtain ⟨b_15,hy_16,h_14⟩:=bind_some h_14
     refine kz un9 rfl rfl hy_16 wz (ae (vB (decide ((b_15.toNat:Int) < 32))) wz rfl ?_)
     rcases ak h_14 with⟨hc_17,h_14⟩ | ⟨hc_17,h_14⟩
     ·refine av rfl hc_17 wz (ai wa (ai wa (ai wa (ai wa (ae (vB true) wz rfl (aj ?_))))))
      obtain rfl:=ah h_14
      exact cu
     ·refine av rfl hc_17 wz (ae (vS s_1) wa rfl (ae (vI s_7) wa rfl ?_))
      obtain ⟨b_18,hy_19,h_14⟩:=bind_some h_14
      refine kz un9 rfl rfl hy_19 wa (ae (vB ((b_18.toNat:Int) == 127)) wa rfl (ae (vB ((b_18.toNat:Int) == 127)) wz rfl (aj ?_)))
      obtain rfl:=ah h_14
      exact cu
    ·rintro ⟨⟩ _ sl_ H_ hp_ hq_
     refine aK _ hp_ hq_ ?_
     rcases ak hc_8 with⟨hc_20,hc_8⟩ | ⟨hc_20,hc_8⟩
     ·refine ay rfl hc_20 (af (aa (ae (vB false) wz rfl (aj ?_))))
      obtain rfl:=ah hc_8
      obtain rfl:=ah hL_9
      obtain rfl:=ah hF
      exact aB (aP (.inr rfl) [(vB false)] ⟨rfl,trivial⟩ rfl rfl rfl)
     ·refine ax rfl hc_20 (au (aa (ae (vI s_7) wz rfl (ae (vI (w64 (s_7 + 1))) wz rfl (ae (vI (w64 (s_7 + 1))) wz rfl (aj ?_))))))
      obtain rfl:=ah hc_8
      exact aU (k_2,(w64 (s_7 + 1))) hL_9 (Nat.lt_succ_self _) rfl (aI rfl)
   ·refine ax rfl hc_12 (aS ?_)
    obtain rfl:=ah hc_8
    obtain rfl:=ah hL_9
    exact aO (s_7) rfl rfl (aI rfl)
 ·rintro s_7 ho_ sl_ H_ hp_ hq_
  subst ho_
  refine aK _ hp_ hq_ (af ?_)
  obtain ⟨v_21,h_22,hF⟩:=bind_some hF
  refine aD (β:=Unit) (fun _=>([(2,(vB v_21))]:List (Nat×V))) (fun _=>([]:Hp)) (fun _=>True) ?_ ?_
  ·refine aa (ae (vS s_1) wz rfl ?_)
   obtain ⟨r_23,hr_24,h_22⟩:=bind_some h_22
   refine aF (pX hr_24) rfl hb208 rfl rfl rfl rfl wz ?_
   rcases ak h_22 with⟨hc_25,h_22⟩ | ⟨hc_25,h_22⟩
   ·refine av rfl hc_25 wz (ae (vS s_1) wa rfl ?_)
    obtain ⟨r_26,hr_27,h_22⟩:=bind_some h_22
    refine aF (zy hr_27) rfl hb211 rfl rfl rfl rfl wa (ae (vS s_1) wa rfl (ae (vB (sEq r_26 s_1)) wa rfl (ae (vB (sEq r_26 s_1)) wz rfl ?_)))
    rcases ak h_22 with⟨hc_28,h_22⟩ | ⟨hc_28,h_22⟩
    ·refine av rfl hc_28 wz (ae (vS s_1) wa rfl ?_)
     obtain ⟨r_29,hr_30,h_22⟩:=bind_some h_22
     refine aF (wh hr_30) rfl hb212 rfl rfl rfl rfl wa (ae (vB (!r_29)) wa rfl (ae (vB (!r_29)) wz rfl (ae (vB (!r_29)) wz rfl (aj ?_))))
     obtain rfl:=ah h_22
     exact cu
    ·refine av rfl hc_28 wz (ai wa (ai wa (ai wa (ae (vB false) wz rfl (ae (vB false) wz rfl (aj ?_))))))
     obtain rfl:=ah h_22
     exact cu
   ·refine av rfl hc_25 wz (ai wa (ai wa (ai wa (ai wa (ae (vB false) wz rfl (ae (vB false) wz rfl (ai wa (ai wa (ai wa (ae (vB false) wz rfl (ae (vB false) wz rfl (aj ?_))))))))))))
    obtain rfl:=ah h_22
    exact cu
  ·rintro ⟨⟩ _ sl_ H_ hp_ hq_
   refine aK _ hp_ hq_ ?_
   obtain rfl:=ah hF
   exact aB (aP (.inr rfl) [(vB v_21)] ⟨rfl,trivial⟩ rfl rfl rfl)
theorem wC {a_1:Alert} {r:Int} (hF:gG a_1=some r) :
  FnM Tryz.prog 205 [(.d (.agg (Alert.enc a_1)))] [] (vI r) []:=by
 refine FnM.of_wH ⟨Tryz.prog,92,[],[]⟩ rfl Tryz.func205 rfl rfl (Nat.le_of_ble_eq_true rfl) (by kernel_rfl) ?_
 unfold gG at hF
 refine af (aa (fB 0 (.inl rfl) [(vS a_1.Id),(vS a_1.Sender),(vI a_1.Kind),(vL eS a_1.Refs),(vI a_1.At),(vI a_1.Until),(vI a_1.Weight),(vL Rect.enc a_1.Areas),(vS a_1.Text)] rfl rfl wz (fun n_2=>ae (vI 0) wz rfl (aj (af (af ?_))))))
 obtain ⟨v_3,h_4,hF⟩:=bind_some hF
 refine aD (β:=Unit) (fun _=>([(1,(.ref n_2 0 0)),(17,(vB v_3))]:List (Nat×V))) (fun _=>([(n_2,some (.cells 9 [(vS a_1.Id),(vS a_1.Sender),(vI a_1.Kind),(vL eS a_1.Refs),(vI a_1.At),(vI a_1.Until),(vI a_1.Weight),(vL Rect.enc a_1.Areas),(vS a_1.Text)]))]:Hp)) (fun _=>True) ?_ ?_
 ·refine aa (aG lD rfl 0 rfl wz (aC 0 0 il ft sz9 ag9 rfl rfl (vS a_1.Id) rfl wz ?_))
  obtain ⟨r_5,hr_6,h_4⟩:=bind_some h_4
  refine aF (eB hr_6) rfl rV rfl rfl rfl rfl wz (ae (vB (!r_5)) wz rfl ?_)
  rcases ak h_4 with⟨hc_7,h_4⟩ | ⟨hc_7,h_4⟩
  ·refine av rfl hc_7 wz (ai wa (ai wa (ai wa (ai wa (ae (vB true) wz rfl (aj ?_))))))
   obtain rfl:=ah h_4
   exact cu
  ·refine av rfl hc_7 wz (aG Dq rfl 1 rfl wa (aC 0 0 il ft sz9 ag9 rfl rfl (vS a_1.Sender) rfl wa ?_))
   obtain ⟨r_8,hr_9,h_4⟩:=bind_some h_4
   refine aF (eB hr_9) rfl rV rfl rfl rfl rfl wa (ae (vB (!r_8)) wa rfl (ae (vB (!r_8)) wz rfl (aj ?_)))
   obtain rfl:=ah h_4
   exact cu
 ·rintro ⟨⟩ _ sl_ H_ hp_ hq_
  refine aK _ hp_ hq_ ?_
  rcases ak hF with⟨hc_10,hF⟩ | ⟨hc_10,hF⟩
  ·refine ay rfl hc_10 (af (aa (ae (vI 5) wz rfl (aj ?_))))
   obtain rfl:=ah hF
   exact aB (aP (.inr rfl) [(vI 5)] ⟨rfl,trivial⟩ rfl rfl rfl)
  ·refine ax rfl hc_10 (au (af (af (aa (aG vz rfl 2 rfl wz (aC 0 0 il ft sz3 ag3 rfl rfl (vI a_1.Kind) rfl wz ?_))))))
   obtain ⟨r_11,hr_12,hF⟩:=bind_some hF
   refine aF (aY hr_12) rfl pM rfl rfl rfl rfl wz (aj ?_)
   rcases ak hF with⟨hc_13,hF⟩ | ⟨hc_13,hF⟩
   ·refine ay rfl hc_13 (af (aa (ae (vI 4) wz rfl (aj ?_))))
    obtain rfl:=ah hF
    exact aB (aP (.inr rfl) [(vI 4)] ⟨rfl,trivial⟩ rfl rfl rfl)
   ·refine ax rfl hc_13 (au (af (af (aa (aC 0 0 il ft gX kC rfl rfl (.d (.agg (Alert.enc a_1))) rfl wz ?_)))))
    obtain ⟨r_14,hr_15,hF⟩:=bind_some hF
    refine aF (xA hr_15) rfl hb268 rfl rfl rfl rfl wz (ae (vI r_14) wz rfl (aj (af (aa (ae (vI r_14) wz rfl (ae (vB (r_14 != 0)) wz rfl (aj ?_)))))))
    rcases ak hF with⟨hc_16,hF⟩ | ⟨hc_16,hF⟩
    ·refine ay rfl hc_16 (af (aa (ae (vI r_14) wz rfl (ae (vI r_14) wz rfl (aj ?_)))))
     obtain rfl:=ah hF
     exact aB (aP (.inr rfl) [(vI r_14)] ⟨rfl,trivial⟩ rfl rfl rfl)
    ·refine ax rfl hc_16 (au (af (af ?_)))
     obtain ⟨v_17,h_18,hF⟩:=bind_some hF
     refine aD (β:=Unit) (fun _=>([(1,(.ref n_2 0 0)),(45,(vB v_17))]:List (Nat×V))) (fun _=>([(n_2,some (.cells 9 [(vS a_1.Id),(vS a_1.Sender),(vI a_1.Kind),(vL eS a_1.Refs),(vI a_1.At),(vI a_1.Until),(vI a_1.Weight),(vL Rect.enc a_1.Areas),(vS a_1.Text)]))]:Hp)) (fun _=>True) ?_ ?_
     ·refine aa (aG jU rfl 4 rfl wz (aC 0 0 il ft sz3 ag3 rfl rfl (vI a_1.At) rfl wz ?_))
      obtain ⟨r_19,hr_20,h_18⟩:=bind_some h_18
      refine aF (eU hr_20) rfl xK rfl rfl rfl rfl wz (ae (vB (!r_19)) wz rfl ?_)
      rcases ak h_18 with⟨hc_21,h_18⟩ | ⟨hc_21,h_18⟩
      ·refine av rfl hc_21 wz (ai wa (ai wa (ai wa (ai wa (ai wa (ai wa (ai wa (ai wa (ai wa (ae (vB true) wz rfl (ae (vB true) wz rfl (ai wa (ai wa (ai wa (ae (vB true) wz rfl (aj ?_))))))))))))))))
       obtain rfl:=ah h_18
       exact cu
      ·refine av rfl hc_21 wz (aG Ep rfl 5 rfl wa (aC 0 0 il ft sz3 ag3 rfl rfl (vI a_1.Until) rfl wa (aG jU rfl 4 rfl wa (aC 0 0 il ft sz3 ag3 rfl rfl (vI a_1.At) rfl wa (ae (vI (w64 (a_1.At + 1))) wa rfl (aG jU rfl 4 rfl wa (aC 0 0 il ft sz3 ag3 rfl rfl (vI a_1.At) rfl wa (ae (vI (w64 (a_1.At + 2592000000))) wa rfl ?_))))))))
       obtain ⟨r_22,hr_23,h_18⟩:=bind_some h_18
       refine aF (aY hr_23) rfl pM rfl rfl rfl rfl wa (ae (vB r_22) wz rfl ?_)
       rcases ak h_18 with⟨hc_24,h_18⟩ | ⟨hc_24,h_18⟩
       ·refine av rfl hc_24 wz (ai wa (ai wa (ai wa (ae (vB true) wz rfl (aj ?_)))))
        obtain rfl:=ah h_18
        exact cu
       ·refine av rfl hc_24 wz (aG pl100_6 rfl 6 rfl wa (aC 0 0 il ft sz3 ag3 rfl rfl (vI a_1.Weight) rfl wa ?_))
        obtain ⟨r_25,hr_26,h_18⟩:=bind_some h_18
        refine aF (aY hr_26) rfl pM rfl rfl rfl rfl wa (ae (vB r_25) wz rfl (aj ?_))
        obtain rfl:=ah h_18
        exact cu
     ·rintro ⟨⟩ _ sl_ H_ hp_ hq_
      refine aK _ hp_ hq_ ?_
      rcases ak hF with⟨hc_27,hF⟩ | ⟨hc_27,hF⟩
      ·refine ay rfl hc_27 (af (aa (ae (vI 1) wz rfl (aj ?_))))
       obtain rfl:=ah hF
       exact aB (aP (.inr rfl) [(vI 1)] ⟨rfl,trivial⟩ rfl rfl rfl)
      ·refine ax rfl hc_27 (au (af (af (aa (aG vH rfl 7 rfl wz (aC 0 0 il ft FT Gi rfl rfl (vL Rect.enc a_1.Areas) rfl wz (bO yI rfl wz (ae (vB (decide ((a_1.Areas.length:Int) > 20))) wz rfl (aj ?_)))))))))
       rcases ak hF with⟨hc_28,hF⟩ | ⟨hc_28,hF⟩
       ·refine ay rfl hc_28 (af (aa (ae (vI 2) wz rfl (aj ?_))))
        obtain rfl:=ah hF
        exact aB (aP (.inr rfl) [(vI 2)] ⟨rfl,trivial⟩ rfl rfl rfl)
       ·refine ax rfl hc_28 (au (af (af (aa (aG vH rfl 7 rfl wz (aC 0 0 il ft FT Gi rfl rfl (vL Rect.enc a_1.Areas) rfl wz (bO yI rfl wz (ae (vI 0) wz rfl (aj ?_)))))))))
        obtain ⟨o_37,hj_38,hF⟩:=bind_some hF
        obtain ⟨hn_33,hj_38⟩:=aW hj_38
        refine aD (β:=(Unit)) (fun (s_34:Unit)=>([(1,(.ref n_2 0 0))]:List (Nat×V))) (fun (s_34:Unit)=>([(n_2,some (.cells 9 [(vS a_1.Id),(vS a_1.Sender),(vI a_1.Kind),(vL eS a_1.Refs),(vI a_1.At),(vI a_1.Until),(vI a_1.Weight),(vL Rect.enc a_1.Areas),(vS a_1.Text)]))]:Hp)) (fun p=>o_37 = .go p) ?_ ?_
        ·refine aA (aV (β:=Nat×(List Rect)×(Unit)) (fun p=>(fun (k_29:Nat) (l_30:List Rect) (s_34:Unit)=>([(1,(.ref n_2 0 0)),(51,(vL Rect.enc a_1.Areas)),(52,(vI (a_1.Areas.length:Int))),(53,(vI (k_29:Int)))]:List (Nat×V))) p.1 p.2.1 p.2.2) (fun p=>(fun (k_29:Nat) (l_30:List Rect) (s_34:Unit)=>([(n_2,some (.cells 9 [(vS a_1.Id),(vS a_1.Sender),(vI a_1.Kind),(vL eS a_1.Refs),(vI a_1.At),(vI a_1.Until),(vI a_1.Weight),(vL Rect.enc a_1.Areas),(vS a_1.Text)]))]:Hp)) p.1 p.2.1 p.2.2) (fun p=>forR (fun k x s=>fO k x s) p.2.1 p.1 p.2.2=some o_37∧(a_1.Areas).drop p.1=p.2.1) (fun p=>p.2.1.length) (0,a_1.Areas,()) ⟨hj_38,rfl⟩ rfl (aI rfl) ?_)
         rintro ⟨k_29,l_30,s_34⟩ ⟨hL_36,hD_32⟩
         dsimp only at hL_36 hD_32
         cases l_30 with
         | nil =>
          obtain rfl:=ah hL_36
          refine af (aa (ae (vB (decide ((k_29:Int) < (a_1.Areas.length:Int)))) wz rfl (aj ?_)))
          refine af (ax rfl (drop_nil hD_32) (aS ?_))
          exact aO (s_34) rfl rfl (aI rfl)
         | cons x_31 l_30 =>
          obtain ⟨c_,hc_35,hL_36⟩:=bind_some hL_36
          refine af (aa (ae (vB (decide ((k_29:Int) < (a_1.Areas.length:Int)))) wz rfl (aj ?_)))
          refine af (ay rfl (aX hD_32) (au ?_))
          unfold fO at hc_35
          refine af (aA (af (aa (dI Cj rfl rfl (bC hD_32) rfl wz (bG rF DK rfl (.d (.agg (Rect.enc x_31))) rfl wz (dh 0 (.inl rfl) z45 rfl wz (fun n_39=>fD 0 il ft 1 rF rfl rfl [(vI x_31.X),(vI x_31.Y),(vI x_31.W),(vI x_31.H)] rfl wz (aj (af (aa (aC 0 1 il ft rF DK rfl rfl (.d (.agg (Rect.enc x_31))) rfl wz ?_)))))))))))
          obtain ⟨r_40,hr_41,hc_35⟩:=bind_some hc_35
          refine aF (pJ hr_41) rfl hb73 rfl rfl rfl rfl wz (ae (vI r_40) wz rfl (aj (af (aa (ae (vI r_40) wz rfl (ae (vB (r_40 != 0)) wz rfl (aj ?_)))))))
          rcases ak hc_35 with⟨hc_42,hc_35⟩ | ⟨hc_42,hc_35⟩
          ·refine ay rfl hc_42 (af (aa (ae (vI r_40) wz rfl (ae (vI r_40) wz rfl (aj ?_)))))
           obtain rfl:=ah hc_35
           obtain rfl:=ah hL_36
           obtain rfl:=ah hF
           exact aB (aP (.inr rfl) [(vI r_40)] ⟨rfl,trivial⟩ rfl rfl rfl)
          ·refine ax rfl hc_42 (au (aa (dY (bn hD_32 hn_33) wz rfl (ae (vI ((k_29 + 1:Nat):Int)) wz rfl (aj ?_)))))
           obtain rfl:=ah hc_35
           exact aU (k_29 + 1,l_30,()) ⟨hL_36,aR hD_32⟩ (Nat.lt_succ_self _) rfl (aI rfl)
        ·rintro s_34 ho_ sl_ H_ hp_ hq_
         subst ho_
         refine aK _ hp_ hq_ (af (aa (aG vz rfl 2 rfl wz (aC 0 0 il ft sz3 ag3 rfl rfl (vI a_1.Kind) rfl wz (ae (vB (a_1.Kind == 3)) wz rfl (ae (vB (a_1.Kind == 3)) wz rfl (aj (af (aA (af (aa (ae (vB (a_1.Kind == 3)) wz rfl (aG vH rfl 7 rfl wz (aC 0 0 il ft FT Gi rfl rfl (vL Rect.enc a_1.Areas) rfl wz (bO yI rfl wz (ae (vB ((a_1.Areas.length:Int) == 0)) wz rfl (K3 un4 rfl rfl wz (ae (vB (!((a_1.Kind == 3) == ((a_1.Areas.length:Int) == 0)))) wz rfl (aj ?_)))))))))))))))))))
         rcases ak hF with⟨hc_43,hF⟩ | ⟨hc_43,hF⟩
         ·refine ay rfl hc_43 (af (aa (ae (vI 3) wz rfl (aj ?_))))
          obtain rfl:=ah hF
          exact aB (aP (.inr rfl) [(vI 3)] ⟨rfl,trivial⟩ rfl rfl rfl)
         ·refine ax rfl hc_43 (af (aa (aG zT rfl 8 rfl wz (aC 0 0 il ft sz9 ag9 rfl rfl (vS a_1.Text) rfl wz (nU un9 rfl wz (ae (vB (decide ((a_1.Text.size:Int) > 500))) wz rfl (ae (vB (decide ((a_1.Text.size:Int) > 500))) wz rfl (aj ?_))))))))
          rcases ak hF with⟨hc_44,hF⟩ | ⟨hc_44,hF⟩
          ·refine ay rfl hc_44 (af (aa (ae (vI 2) wz rfl (aj ?_))))
           obtain rfl:=ah hF
           exact aB (aP (.inr rfl) [(vI 2)] ⟨rfl,trivial⟩ rfl rfl rfl)
          ·refine ax rfl hc_44 (af ?_)
           obtain ⟨v_45,h_46,hF⟩:=bind_some hF
           refine aD (β:=Unit) (fun _=>([(78,(vB v_45))]:List (Nat×V))) (fun _=>([(n_2,some (.cells 9 [(vS a_1.Id),(vS a_1.Sender),(vI a_1.Kind),(vL eS a_1.Refs),(vI a_1.At),(vI a_1.Until),(vI a_1.Weight),(vL Rect.enc a_1.Areas),(vS a_1.Text)]))]:Hp)) (fun _=>True) ?_ ?_
           ·refine aa (aG zT rfl 8 rfl wz (aC 0 0 il ft sz9 ag9 rfl rfl (vS a_1.Text) rfl wz ?_))
            obtain ⟨r_47,hr_48,h_46⟩:=bind_some h_46
            refine aF (Be hr_48) rfl hb269 rfl rfl rfl rfl wz (ae (vB (!r_47)) wz rfl ?_)
            rcases ak h_46 with⟨hc_49,h_46⟩ | ⟨hc_49,h_46⟩
            ·refine av rfl hc_49 wz (ai wa (ai wa (ai wa (ai wa (ai (wn rfl rfl) (ai (wn rfl rfl) (ai wa (ae (vB true) wz rfl (ae (vB true) wz rfl (aj ?_))))))))))
             obtain rfl:=ah h_46
             exact cu
            ·refine av rfl hc_49 wz (aG zT rfl 8 rfl wa (aC 0 0 il ft sz9 ag9 rfl rfl (vS a_1.Text) rfl wa (ae (vB (sEq a_1.Text (⟨#[]⟩:ByteArray))) wa rfl ?_)))
             rcases ak h_46 with⟨hc_50,h_46⟩ | ⟨hc_50,h_46⟩
             ·refine av rfl hc_50 wa (ae (vB (a_1.Kind == 3)) wa rfl (ae (vB (!(a_1.Kind == 3))) wa rfl (ae (vB (!(a_1.Kind == 3))) wa rfl (ae (vB (!(a_1.Kind == 3))) wz rfl (ae (vB (!(a_1.Kind == 3))) wz rfl (aj ?_))))))
              obtain rfl:=ah h_46
              exact cu
             ·refine av rfl hc_50 wa (ai wa (ai wa (ae (vB false) wa rfl (ae (vB false) wz rfl (ae (vB false) wz rfl (aj ?_))))))
              obtain rfl:=ah h_46
              exact cu
           ·rintro ⟨⟩ _ sl_ H_ hp_ hq_
            refine aK _ hp_ hq_ ?_
            rcases ak hF with⟨hc_51,hF⟩ | ⟨hc_51,hF⟩
            ·refine ay rfl hc_51 (af (aa (ae (vI 3) wz rfl (aj ?_))))
             obtain rfl:=ah hF
             exact aB (aP (.inr rfl) [(vI 3)] ⟨rfl,trivial⟩ rfl rfl rfl)
            ·refine ax rfl hc_51 (au (af (aa (ae (vI 0) wz rfl (aj ?_)))))
             obtain rfl:=ah hF
             exact aB (aP (.inr rfl) [(vI 0)] ⟨rfl,trivial⟩ rfl rfl rfl)
theorem lK {x_1:Int} {r:Bool} (hF:cmp_isNaN_int x_1=some r) :
  FnM Tryz.prog 186 [(vI x_1)] [] (vB r) []:=by
 refine FnM.of_wH ⟨Tryz.prog,6,[],[]⟩ rfl Tryz.func186 rfl rfl (Nat.le_of_ble_eq_true rfl) (by kernel_rfl) ?_
 unfold cmp_isNaN_int at hF
 refine af (aa (ae (vB false) wz rfl (aj (af (aa (ae (vI x_1) wz rfl (ae (vI x_1) wz rfl (ae (vB (x_1 != x_1)) wz rfl (ae (vB (x_1 != x_1)) wz rfl (aj ?_))))))))))
 obtain rfl:=ah hF
 exact aB (aP (.inr rfl) [(vB (x_1 != x_1))] ⟨rfl,trivial⟩ rfl rfl rfl)
theorem mr {x_1:Int} {y_2:Int} {r:Int} (hF:cmp_Compare_int x_1 y_2=some r) :
  FnM Tryz.prog 114 [(vI x_1),(vI y_2)] [] (vI r) []:=by
 refine FnM.of_wH ⟨Tryz.prog,20,[],[]⟩ rfl Tryz.func114 rfl rfl (Nat.le_of_ble_eq_true rfl) (by kernel_rfl) ?_
 unfold cmp_Compare_int at hF
 refine af (aa (ae (vI 0) wz rfl (aj (af (aa (ae (vI x_1) wz rfl ?_))))))
 obtain ⟨r_3,hr_4,hF⟩:=bind_some hF
 refine aF (lK hr_4) rfl IJ rfl rfl rfl rfl wz (ae (vB r_3) wz rfl (aj (af (aa (ae (vI y_2) wz rfl ?_)))))
 obtain ⟨r_5,hr_6,hF⟩:=bind_some hF
 refine aF (lK hr_6) rfl IJ rfl rfl rfl rfl wz (ae (vB r_5) wz rfl (aj (af (af (aa (ae (vB r_3) wz rfl (aj ?_)))))))
 rcases ak hF with⟨hc_7,hF⟩ | ⟨hc_7,hF⟩
 ·refine ay rfl hc_7 (af (af (aa (ae (vB r_5) wz rfl (aj ?_)))))
  rcases ak hF with⟨hc_8,hF⟩ | ⟨hc_8,hF⟩
  ·refine ay rfl hc_8 (af (aa (ae (vI 0) wz rfl (aj ?_))))
   obtain rfl:=ah hF
   exact aB (aP (.inr rfl) [(vI 0)] ⟨rfl,trivial⟩ rfl rfl rfl)
  ·refine ax rfl hc_8 (au (af (aa (ae (vI (-1)) wz rfl (aj ?_)))))
   obtain rfl:=ah hF
   exact aB (aP (.inr rfl) [(vI (-1))] ⟨rfl,trivial⟩ rfl rfl rfl)
 ·refine ax rfl hc_7 (au (af (af (aa (ae (vB r_5) wz rfl (aj ?_))))))
  rcases ak hF with⟨hc_9,hF⟩ | ⟨hc_9,hF⟩
  ·refine ay rfl hc_9 (af (aa (ae (vI 1) wz rfl (aj ?_))))
   obtain rfl:=ah hF
   exact aB (aP (.inr rfl) [(vI 1)] ⟨rfl,trivial⟩ rfl rfl rfl)
  ·refine ax rfl hc_9 (au (af (af (aa (ae (vI x_1) wz rfl (ae (vI y_2) wz rfl (ae (vB (decide (x_1 < y_2))) wz rfl (aj ?_))))))))
   rcases ak hF with⟨hc_10,hF⟩ | ⟨hc_10,hF⟩
   ·refine ay rfl hc_10 (af (aa (ae (vI (-1)) wz rfl (aj ?_))))
    obtain rfl:=ah hF
    exact aB (aP (.inr rfl) [(vI (-1))] ⟨rfl,trivial⟩ rfl rfl rfl)
   ·refine ax rfl hc_10 (au (af (af (aa (ae (vI x_1) wz rfl (ae (vI y_2) wz rfl (ae (vB (decide (x_1 > y_2))) wz rfl (aj ?_))))))))
    rcases ak hF with⟨hc_11,hF⟩ | ⟨hc_11,hF⟩
    ·refine ay rfl hc_11 (af (aa (ae (vI 1) wz rfl (aj ?_))))
     obtain rfl:=ah hF
     exact aB (aP (.inr rfl) [(vI 1)] ⟨rfl,trivial⟩ rfl rfl rfl)
    ·refine ax rfl hc_11 (au (af (aa (ae (vI 0) wz rfl (aj ?_)))))
     obtain rfl:=ah hF
     exact aB (aP (.inr rfl) [(vI 0)] ⟨rfl,trivial⟩ rfl rfl rfl)
theorem mK {a_1:ByteArray} {b_2:ByteArray} {r:Int} (hF:gz a_1 b_2=some r) :
  FnM Tryz.prog 181 [(vS a_1),(vS b_2)] [] (vI r) []:=by
 refine FnM.of_wH ⟨Tryz.prog,8,[],[]⟩ rfl Tryz.func181 rfl rfl (Nat.le_of_ble_eq_true rfl) (by kernel_rfl) ?_
 unfold gz at hF
 refine af (aa (ae (vI 0) wz rfl (aj (af (aa (ae (vS a_1) wz rfl (ae (vS b_2) wz rfl (h_ext (JN (f:=248) Tryz.func248 rfl rfl (by kernel_rfl) (by kernel_rfl) _ _) rfl nb248 rfl wz (ae (vI (vX a_1 b_2)) wz rfl (aj ?_))))))))))
 obtain rfl:=ah hF
 exact aB (aP (.inr rfl) [(vI (vX a_1 b_2))] ⟨rfl,trivial⟩ rfl rfl rfl)
theorem gq {a_1:ByteArray} {b_2:ByteArray} {r:Int} (hF:strings_Compare a_1 b_2=some r) :
  FnM Tryz.prog 108 [(vS a_1),(vS b_2)] [] (vI r) []:=by
 refine FnM.of_wH ⟨Tryz.prog,8,[],[]⟩ rfl Tryz.func108 rfl rfl (Nat.le_of_ble_eq_true rfl) (by kernel_rfl) ?_
 unfold strings_Compare at hF
 refine af (aa (ae (vI 0) wz rfl (aj (af (aa (ae (vS a_1) wz rfl (ae (vS b_2) wz rfl ?_)))))))
 obtain ⟨r_3,hr_4,hF⟩:=bind_some hF
 refine aF (mK hr_4) rfl hb181 rfl rfl rfl rfl wz (ae (vI r_3) wz rfl (aj ?_))
 obtain rfl:=ah hF
 exact aB (aP (.inr rfl) [(vI r_3)] ⟨rfl,trivial⟩ rfl rfl rfl)
theorem oq {vals_1:(List Int)} {r:Int} (hF:jg vals_1=some r) :
  FnM Tryz.prog 107 [(vL eI vals_1)] [] (vI r) []:=by
 refine FnM.of_wH ⟨Tryz.prog,18,[],[]⟩ rfl Tryz.func107 rfl rfl (Nat.le_of_ble_eq_true rfl) (by kernel_rfl) ?_
 unfold jg at hF
 refine af (aa (ae (vI 0) wz rfl (aj (af (aa (ae (vI 0) wz rfl (aj (af (af (aa (ae (vL eI vals_1) wz rfl (bO vZ rfl wz (ae (vI 0) wz rfl (aj ?_))))))))))))))
 obtain ⟨o_10,hj_11,hF⟩:=bind_some hF
 obtain ⟨hn_6,hj_11⟩:=aW hj_11
 refine aD (β:=(Unit)) (fun (s_7:Unit)=>([(3,(vI 0))]:List (Nat×V))) (fun (s_7:Unit)=>([]:Hp)) (fun p=>o_10 = .go p) ?_ ?_
 ·refine aA (aV (β:=Nat×(List Int)×(Unit)) (fun p=>(fun (k_2:Nat) (l_3:List Int) (s_7:Unit)=>([(3,(vI 0)),(6,(vL eI vals_1)),(7,(vI (vals_1.length:Int))),(8,(vI (k_2:Int)))]:List (Nat×V))) p.1 p.2.1 p.2.2) (fun p=>(fun (k_2:Nat) (l_3:List Int) (s_7:Unit)=>([]:Hp)) p.1 p.2.1 p.2.2) (fun p=>forR (fun k x s=>l6 k x s) p.2.1 p.1 p.2.2=some o_10∧(vals_1).drop p.1=p.2.1) (fun p=>p.2.1.length) (0,vals_1,()) ⟨hj_11,rfl⟩ rfl (aI rfl) ?_)
  rintro ⟨k_2,l_3,s_7⟩ ⟨hL_9,hD_5⟩
  dsimp only at hL_9 hD_5
  cases l_3 with
  | nil =>
   obtain rfl:=ah hL_9
   refine af (aa (ae (vB (decide ((k_2:Int) < (vals_1.length:Int)))) wz rfl (aj ?_)))
   refine af (ax rfl (drop_nil hD_5) (aS ?_))
   exact aO (s_7) rfl rfl (aI rfl)
  | cons x_4 l_3 =>
   obtain ⟨c_,hc_8,hL_9⟩:=bind_some hL_9
   refine af (aa (ae (vB (decide ((k_2:Int) < (vals_1.length:Int)))) wz rfl (aj ?_)))
   refine af (ay rfl (aX hD_5) (au ?_))
   unfold l6 at hc_8
   refine af (aA (af (aa (dI nM rfl rfl (bC hD_5) rfl wz (bG sz3 ag3 rfl (vI x_4) rfl wz (ae (vI x_4) wz rfl (aj (af (aa (ae (vI x_4) wz rfl (ae (vI 0) wz rfl (ae (vB (x_4 != 0)) wz rfl (aj ?_)))))))))))))
   rcases ak hc_8 with⟨hc_12,hc_8⟩ | ⟨hc_12,hc_8⟩
   ·refine ay rfl hc_12 (af (aa (ae (vI x_4) wz rfl (ae (vI x_4) wz rfl (aj ?_)))))
    obtain rfl:=ah hc_8
    obtain rfl:=ah hL_9
    obtain rfl:=ah hF
    exact aB (aP (.inr rfl) [(vI x_4)] ⟨rfl,trivial⟩ rfl rfl rfl)
   ·refine ax rfl hc_12 (au (aa (dY (bn hD_5 hn_6) wz rfl (ae (vI ((k_2 + 1:Nat):Int)) wz rfl (aj ?_)))))
    obtain rfl:=ah hc_8
    exact aU (k_2 + 1,l_3,()) ⟨hL_9,aR hD_5⟩ (Nat.lt_succ_self _) rfl (aI rfl)
 ·rintro s_7 ho_ sl_ H_ hp_ hq_
  subst ho_
  refine aK _ hp_ hq_ (af (aa (ae (vI 0) wz rfl (ae (vI 0) wz rfl (aj ?_)))))
  obtain rfl:=ah hF
  exact aB (aP (.inr rfl) [(vI 0)] ⟨rfl,trivial⟩ rfl rfl rfl)
theorem rJ {a_1:Alert} {b_2:Alert} {r:Int} (hF:gJ a_1 b_2=some r) :
  FnM Tryz.prog 206 [(.d (.agg (Alert.enc a_1))),(.d (.agg (Alert.enc b_2)))] [] (vI r) []:=by
 refine FnM.of_wH ⟨Tryz.prog,17,[],[]⟩ rfl Tryz.func206 rfl rfl (Nat.le_of_ble_eq_true rfl) (by kernel_rfl) ?_
 unfold gJ at hF
 refine af (aa (fB 0 (.inl rfl) [(vS a_1.Id),(vS a_1.Sender),(vI a_1.Kind),(vL eS a_1.Refs),(vI a_1.At),(vI a_1.Until),(vI a_1.Weight),(vL Rect.enc a_1.Areas),(vS a_1.Text)] rfl rfl wz (fun n_3=>fB 0 (.inl rfl) [(vS b_2.Id),(vS b_2.Sender),(vI b_2.Kind),(vL eS b_2.Refs),(vI b_2.At),(vI b_2.Until),(vI b_2.Weight),(vL Rect.enc b_2.Areas),(vS b_2.Text)] rfl rfl wz (fun n_4=>ae (vI 0) wz rfl (aj (af (bA (aG jU rfl 4 rfl wz (aC 1 0 (.inr (by kernel_rfl)) (fun _ _ ag=>trivial) sz3 ag3 rfl rfl (vI a_1.At) rfl wz (aG jU rfl 4 rfl wz (aC 3 1 (.inr (by kernel_rfl)) (fun _ _ ag=>⟨.inl ⟨rfl,rfl⟩,trivial⟩) sz3 ag3 rfl rfl (vI b_2.At) rfl wz ?_)))))))))))
 obtain ⟨r_5,hr_6,hF⟩:=bind_some hF
 refine aF (mr hr_6) rfl J7 rfl rfl rfl rfl wz (aG lD rfl 0 rfl wz (aC 6 0 (.inr (by kernel_rfl)) (fun _ _ ag=>⟨.inl ⟨rfl,rfl⟩,⟨.inl ⟨rfl,rfl⟩,trivial⟩⟩) sz9 ag9 rfl rfl (vS a_1.Id) rfl wz (aG lD rfl 0 rfl wz (aC 8 1 (.inr (by kernel_rfl)) (fun _ _ ag=>⟨.inl ⟨rfl,rfl⟩,⟨.inl ⟨rfl,rfl⟩,⟨.inl ⟨rfl,rfl⟩,trivial⟩⟩⟩) sz9 ag9 rfl rfl (vS b_2.Id) rfl wz ?_))))
 obtain ⟨r_7,hr_8,hF⟩:=bind_some hF
 refine aF (gq hr_8) rfl CG rfl rfl rfl rfl wz (eQ (([r_5,r_7]:List Int).map eI) nM Di rfl rfl rfl rfl rfl wz ?_)
 obtain ⟨r_9,hr_10,hF⟩:=bind_some hF
 refine aF (oq hr_10) rfl HZ rfl rfl rfl rfl wz (ae (vI r_9) wz rfl (aj ?_))
 obtain rfl:=ah hF
 exact aB (aP (.inr rfl) [(vI r_9)] ⟨rfl,trivial⟩ rfl rfl rfl)
theorem vg {l_1:(List Alert)} {r:Int} (hF:fJ l_1=some r) :
  FnM Tryz.prog 161 [(vL Alert.enc l_1)] [] (vI r) []:=by
 refine FnM.of_wH ⟨Tryz.prog,52,[],[]⟩ rfl Tryz.func161 rfl rfl (Nat.le_of_ble_eq_true rfl) (by kernel_rfl) ?_
 unfold fJ at hF
 refine af (aa (ae (vI 0) wz rfl (aj (af (af (aa (ae (vL Alert.enc l_1) wz rfl (bO FN rfl wz (ae (vB (decide ((l_1.length:Int) > 300))) wz rfl (aj ?_))))))))))
 rcases ak hF with⟨hc_2,hF⟩ | ⟨hc_2,hF⟩
 ·refine ay rfl hc_2 (af (aa (ae (vI 2) wz rfl (aj ?_))))
  obtain rfl:=ah hF
  exact aB (aP (.inr rfl) [(vI 2)] ⟨rfl,trivial⟩ rfl rfl rfl)
 ·refine ax rfl hc_2 (au (af (af (aa (ae (vL Alert.enc l_1) wz rfl (bO FN rfl wz (ae (vI 0) wz rfl (aj ?_))))))))
  obtain ⟨o_11,hj_12,hF⟩:=bind_some hF
  obtain ⟨hn_7,hj_12⟩:=aW hj_12
  refine aD (β:=(Unit)) (fun (s_8:Unit)=>([(0,(vL Alert.enc l_1))]:List (Nat×V))) (fun (s_8:Unit)=>([]:Hp)) (fun p=>o_11 = .go p) ?_ ?_
  ·refine aA (aV (β:=Nat×(List Alert)×(Unit)) (fun p=>(fun (k_3:Nat) (l_4:List Alert) (s_8:Unit)=>([(0,(vL Alert.enc l_1)),(12,(vL Alert.enc l_1)),(13,(vI (l_1.length:Int))),(14,(vI (k_3:Int)))]:List (Nat×V))) p.1 p.2.1 p.2.2) (fun p=>(fun (k_3:Nat) (l_4:List Alert) (s_8:Unit)=>([]:Hp)) p.1 p.2.1 p.2.2) (fun p=>forR (fun k x s=>dX l_1 k x s) p.2.1 p.1 p.2.2=some o_11∧(l_1).drop p.1=p.2.1) (fun p=>p.2.1.length) (0,l_1,()) ⟨hj_12,rfl⟩ rfl (aI rfl) ?_)
   rintro ⟨k_3,l_4,s_8⟩ ⟨hL_10,hD_6⟩
   dsimp only at hL_10 hD_6
   cases l_4 with
   | nil =>
    obtain rfl:=ah hL_10
    refine af (aa (ae (vB (decide ((k_3:Int) < (l_1.length:Int)))) wz rfl (aj ?_)))
    refine af (ax rfl (drop_nil hD_6) (aS ?_))
    exact aO (s_8) rfl rfl (aI rfl)
   | cons x_5 l_4 =>
    obtain ⟨c_,hc_9,hL_10⟩:=bind_some hL_10
    refine af (aa (ae (vB (decide ((k_3:Int) < (l_1.length:Int)))) wz rfl (aj ?_)))
    refine af (ay rfl (aX hD_6) (au ?_))
    unfold dX at hc_9
    refine af (aA (af (aa (ae (vI (k_3:Int)) wz rfl (dI uF rfl rfl (bC hD_6) rfl wz (bG gX kC rfl (.d (.agg (Alert.enc x_5))) rfl wz (dh 0 (.inl rfl) FR rfl wz (fun n_13=>ae (vI (k_3:Int)) wz rfl (fD 0 il ft 0 gX rfl rfl [(vS x_5.Id),(vS x_5.Sender),(vI x_5.Kind),(vL eS x_5.Refs),(vI x_5.At),(vI x_5.Until),(vI x_5.Weight),(vL Rect.enc x_5.Areas),(vS x_5.Text)] rfl wz (aj (af (af (aa (aC 0 0 il ft gX kC rfl rfl (.d (.agg (Alert.enc x_5))) rfl wz ?_))))))))))))))
    obtain ⟨r_14,hr_15,hc_9⟩:=bind_some hc_9
    refine aF (wC hr_15) rfl hb205 rfl rfl rfl rfl wz (ae (vI r_14) wz rfl (aj (af (aa (ae (vI r_14) wz rfl (ae (vB (r_14 != 0)) wz rfl (aj ?_)))))))
    rcases ak hc_9 with⟨hc_16,hc_9⟩ | ⟨hc_16,hc_9⟩
    ·refine ay rfl hc_16 (af (aa (ae (vI r_14) wz rfl (ae (vI r_14) wz rfl (aj ?_)))))
     obtain rfl:=ah hc_9
     obtain rfl:=ah hL_10
     obtain rfl:=ah hF
     exact aB (aP (.inr rfl) [(vI r_14)] ⟨rfl,trivial⟩ rfl rfl rfl)
    ·refine ax rfl hc_16 (au (af ?_))
     obtain ⟨v_17,h_18,hc_9⟩:=bind_some hc_9
     refine aD (β:=Unit) (fun _=>([(0,(vL Alert.enc l_1)),(12,(vL Alert.enc l_1)),(13,(vI (l_1.length:Int))),(14,(vI (k_3:Int))),(35,(vB v_17))]:List (Nat×V))) (fun _=>([(n_13,some (.cells 9 [(vS x_5.Id),(vS x_5.Sender),(vI x_5.Kind),(vL eS x_5.Refs),(vI x_5.At),(vI x_5.Until),(vI x_5.Weight),(vL Rect.enc x_5.Areas),(vS x_5.Text)]))]:Hp)) (fun _=>True) ?_ ?_
     ·refine bA (ae (vI (k_3:Int)) wz rfl (ae (vB (decide ((k_3:Int) > 0))) wz rfl ?_))
      rcases ak h_18 with⟨hc_19,h_18⟩ | ⟨hc_19,h_18⟩
      ·refine av rfl hc_19 wz (ae (vL Alert.enc l_1) wa rfl (ae (vI (k_3:Int)) wa rfl (ae (vI (w64 ((k_3:Int) - 1))) wa rfl ?_)))
       obtain ⟨y_20,hy_21,h_18⟩:=bind_some h_18
       refine dI uF rfl rfl hy_21 rfl wa (bG gX kC rfl (.d (.agg (Alert.enc y_20))) rfl wa (aC 8 0 (.inr (by kernel_rfl)) (fun _ _ ag=>trivial) gX kC rfl rfl (.d (.agg (Alert.enc x_5))) rfl wa ?_))
       obtain ⟨r_22,hr_23,h_18⟩:=bind_some h_18
       refine aF (rJ hr_23) rfl hb206 rfl rfl rfl rfl wa (ae (vB (decide (r_22≥0))) wa rfl (ae (vB (decide (r_22≥0))) wz rfl (aj ?_)))
       obtain rfl:=ah h_18
       exact cu
      ·refine av rfl hc_19 wz (ai wa (ai wa (ai wa (ai wa (ai wa (ai wa (ai wa (ai wa (ae (vB false) wz rfl (aj ?_))))))))))
       obtain rfl:=ah h_18
       exact cu
     ·rintro ⟨⟩ _ sl_ H_ hp_ hq_
      refine aK _ hp_ hq_ ?_
      rcases ak hc_9 with⟨hc_24,hc_9⟩ | ⟨hc_24,hc_9⟩
      ·refine ay rfl hc_24 (af (aa (ae (vI 7) wz rfl (aj ?_))))
       obtain rfl:=ah hc_9
       obtain rfl:=ah hL_10
       obtain rfl:=ah hF
       exact aB (aP (.inr rfl) [(vI 7)] ⟨rfl,trivial⟩ rfl rfl rfl)
      ·refine ax rfl hc_24 (au (aa (dY (bn hD_6 hn_7) wz rfl (ae (vI ((k_3 + 1:Nat):Int)) wz rfl (aj ?_)))))
       obtain rfl:=ah hc_9
       exact aU (k_3 + 1,l_4,()) ⟨hL_10,aR hD_6⟩ (Nat.lt_succ_self _) rfl (aI rfl)
  ·rintro s_8 ho_ sl_ H_ hp_ hq_
   subst ho_
   refine aK _ hp_ hq_ (af (aa (Hu 0 (.inl rfl) wz (fun n_25=>JR (b':=some (bM D.str D.bool ([]:List (ByteArray×Bool)))) 0 rfl rfl (ae (.map n_25) wz rfl (aj (af (af (aa (ae (vL Alert.enc l_1) wz rfl (bO FN rfl wz (ae (vI 0) wz rfl (aj ?_)))))))))))))
   obtain ⟨o_34,hj_35,hF⟩:=bind_some hF
   obtain ⟨hn_30,hj_35⟩:=aW hj_35
   refine aD (β:=((List (ByteArray×Bool)))) (fun (s_31:(List (ByteArray×Bool)))=>([]:List (Nat×V))) (fun (s_31:(List (ByteArray×Bool)))=>([(n_25,some (bM D.str D.bool s_31))]:Hp)) (fun p=>o_34 = .go p) ?_ ?_
   ·refine aA (aV (β:=Nat×(List Alert)×((List (ByteArray×Bool)))) (fun p=>(fun (k_26:Nat) (l_27:List Alert) (s_31:(List (ByteArray×Bool)))=>([(6,(.map n_25)),(38,(vL Alert.enc l_1)),(39,(vI (l_1.length:Int))),(40,(vI (k_26:Int)))]:List (Nat×V))) p.1 p.2.1 p.2.2) (fun p=>(fun (k_26:Nat) (l_27:List Alert) (s_31:(List (ByteArray×Bool)))=>([(n_25,some (bM D.str D.bool s_31))]:Hp)) p.1 p.2.1 p.2.2) (fun p=>forR (fun k x s=>dW k x s) p.2.1 p.1 p.2.2=some o_34∧(l_1).drop p.1=p.2.1) (fun p=>p.2.1.length) (0,l_1,([]:List (ByteArray×Bool))) ⟨hj_35,rfl⟩ rfl (aI rfl) ?_)
    rintro ⟨k_26,l_27,s_31⟩ ⟨hL_33,hD_29⟩
    dsimp only at hL_33 hD_29
    cases l_27 with
    | nil =>
     obtain rfl:=ah hL_33
     refine af (aa (ae (vB (decide ((k_26:Int) < (l_1.length:Int)))) wz rfl (aj ?_)))
     refine af (ax rfl (drop_nil hD_29) (aS ?_))
     exact aO (s_31) rfl rfl (aI rfl)
    | cons x_28 l_27 =>
     obtain ⟨c_,hc_32,hL_33⟩:=bind_some hL_33
     refine af (aa (ae (vB (decide ((k_26:Int) < (l_1.length:Int)))) wz rfl (aj ?_)))
     refine af (ay rfl (aX hD_29) (au ?_))
     unfold dW at hc_32
     refine af (aA (af (aa (dI uF rfl rfl (bC hD_29) rfl wz (bG gX kC rfl (.d (.agg (Alert.enc x_28))) rfl wz (dh 0 (.inl rfl) FR rfl wz (fun n_36=>fD 0 il ft 1 gX rfl rfl [(vS x_28.Id),(vS x_28.Sender),(vI x_28.Kind),(vL eS x_28.Refs),(vI x_28.At),(vI x_28.Until),(vI x_28.Weight),(vL Rect.enc x_28.Areas),(vS x_28.Text)] rfl wz (aj (af (af (aa (ae (.map n_25) wz rfl (aG lD rfl 0 rfl wz (aC 0 1 il ft sz9 ag9 rfl rfl (vS x_28.Id) rfl wz (BD (eq:=eqS) (kD:=D.str) (vD:=D.bool) (es:=s_31) (k:=x_28.Id) (z:=false) 0 0 il ft (fun _ _=>rfl) mt168 (by kernel_rfl) (by kernel_rfl) rfl rfl rfl (vB ((mGet eqS s_31 x_28.Id).getD false)) rfl wz (aj ?_))))))))))))))))
     rcases ak hc_32 with⟨hc_37,hc_32⟩ | ⟨hc_37,hc_32⟩
     ·refine ay rfl hc_37 (af (aa (ae (vI 6) wz rfl (aj ?_))))
      obtain rfl:=ah hc_32
      obtain rfl:=ah hL_33
      obtain rfl:=ah hF
      exact aB (aP (.inr rfl) [(vI 6)] ⟨rfl,trivial⟩ rfl rfl rfl)
     ·refine ax rfl hc_37 (au (aa (ae (.map n_25) wz rfl (aG lD rfl 0 rfl wz (aC 0 1 il ft sz9 ag9 rfl rfl (vS x_28.Id) rfl wz (Ey (eq:=eqS) (kD:=D.str) (vD:=D.bool) (es:=s_31) (k:=x_28.Id) (v:=true) 0 0 il ft (fun _ _=>rfl) mt168 (by kernel_rfl) rfl rfl rfl rfl wz (aj (aa (dY (bn hD_29 hn_30) wz rfl (ae (vI ((k_26 + 1:Nat):Int)) wz rfl (aj ?_)))))))))))
      obtain rfl:=ah hc_32
      exact aU (k_26 + 1,l_27,(wQ eqS s_31 x_28.Id true)) ⟨hL_33,aR hD_29⟩ (Nat.lt_succ_self _) rfl (aI rfl)
   ·rintro s_31 ho_ sl_ H_ hp_ hq_
    subst ho_
    refine aK _ hp_ hq_ (af (aa (ae (vI 0) wz rfl (aj ?_))))
    obtain rfl:=ah hF
    exact aB (aP (.inr rfl) [(vI 0)] ⟨rfl,trivial⟩ rfl rfl rfl)
theorem vY {l_1:(List Post)} {r:Int} (hF:eu l_1=some r) :
  FnM Tryz.prog 162 [(vL Post.enc l_1)] [] (vI r) []:=by
 refine FnM.of_wH ⟨Tryz.prog,44,[],[]⟩ rfl Tryz.func162 rfl rfl (Nat.le_of_ble_eq_true rfl) (by kernel_rfl) ?_
 unfold eu at hF
 refine af (aa (ae (vI 0) wz rfl (aj (af (af (aa (ae (vL Post.enc l_1) wz rfl (bO Jw rfl wz (ae (vB (decide ((l_1.length:Int) > 500))) wz rfl (aj ?_))))))))))
 rcases ak hF with⟨hc_2,hF⟩ | ⟨hc_2,hF⟩
 ·refine ay rfl hc_2 (af (aa (ae (vI 2) wz rfl (aj ?_))))
  obtain rfl:=ah hF
  exact aB (aP (.inr rfl) [(vI 2)] ⟨rfl,trivial⟩ rfl rfl rfl)
 ·refine ax rfl hc_2 (au (af (af (aa (ae (vL Post.enc l_1) wz rfl (bO Jw rfl wz (ae (vI 0) wz rfl (aj ?_))))))))
  obtain ⟨o_11,hj_12,hF⟩:=bind_some hF
  obtain ⟨hn_7,hj_12⟩:=aW hj_12
  refine aD (β:=(Unit)) (fun (s_8:Unit)=>([]:List (Nat×V))) (fun (s_8:Unit)=>([]:Hp)) (fun p=>o_11 = .go p) ?_ ?_
  ·refine aA (aV (β:=Nat×(List Post)×(Unit)) (fun p=>(fun (k_3:Nat) (l_4:List Post) (s_8:Unit)=>([(0,(vL Post.enc l_1)),(8,(vL Post.enc l_1)),(9,(vI (l_1.length:Int))),(10,(vI (k_3:Int)))]:List (Nat×V))) p.1 p.2.1 p.2.2) (fun p=>(fun (k_3:Nat) (l_4:List Post) (s_8:Unit)=>([]:Hp)) p.1 p.2.1 p.2.2) (fun p=>forR (fun k x s=>dn l_1 k x s) p.2.1 p.1 p.2.2=some o_11∧(l_1).drop p.1=p.2.1) (fun p=>p.2.1.length) (0,l_1,()) ⟨hj_12,rfl⟩ rfl (aI rfl) ?_)
   rintro ⟨k_3,l_4,s_8⟩ ⟨hL_10,hD_6⟩
   dsimp only at hL_10 hD_6
   cases l_4 with
   | nil =>
    obtain rfl:=ah hL_10
    refine af (aa (ae (vB (decide ((k_3:Int) < (l_1.length:Int)))) wz rfl (aj ?_)))
    refine af (ax rfl (drop_nil hD_6) (aS ?_))
    exact aO (s_8) rfl rfl (aI rfl)
   | cons x_5 l_4 =>
    obtain ⟨c_,hc_9,hL_10⟩:=bind_some hL_10
    refine af (aa (ae (vB (decide ((k_3:Int) < (l_1.length:Int)))) wz rfl (aj ?_)))
    refine af (ay rfl (aX hD_6) (au ?_))
    unfold dn at hc_9
    refine af (aA (af (aa (ae (vI (k_3:Int)) wz rfl (dI Er rfl rfl (bC hD_6) rfl wz (bG wZ Ch rfl (.d (.agg (Post.enc x_5))) rfl wz (dh 0 (.inl rfl) z66 rfl wz (fun n_13=>ae (vI (k_3:Int)) wz rfl (fD 0 il ft 0 wZ rfl rfl [(vS x_5.Player),(vI x_5.X),(vI x_5.Y)] rfl wz (aj (aA (af (aa (aG uh rfl 0 rfl wz (aC 0 0 il ft sz9 ag9 rfl rfl (vS x_5.Player) rfl wz ?_)))))))))))))))
    obtain ⟨r_14,hr_15,hc_9⟩:=bind_some hc_9
    refine aF (eB hr_15) rfl rV rfl rfl rfl rfl wz (ae (vB (!r_14)) wz rfl (ae (vB (!r_14)) wz rfl (aj ?_)))
    rcases ak hc_9 with⟨hc_16,hc_9⟩ | ⟨hc_16,hc_9⟩
    ·refine ay rfl hc_16 (af (aa (ae (vI 5) wz rfl (aj ?_))))
     obtain rfl:=ah hc_9
     obtain rfl:=ah hL_10
     obtain rfl:=ah hF
     exact aB (aP (.inr rfl) [(vI 5)] ⟨rfl,trivial⟩ rfl rfl rfl)
    ·refine ax rfl hc_16 (af ?_)
     obtain ⟨v_17,h_18,hc_9⟩:=bind_some hc_9
     refine aD (β:=Unit) (fun _=>([(0,(vL Post.enc l_1)),(3,(vI (k_3:Int))),(4,(.ref n_13 0 0)),(8,(vL Post.enc l_1)),(9,(vI (l_1.length:Int))),(10,(vI (k_3:Int))),(20,(vB v_17))]:List (Nat×V))) (fun _=>([(n_13,some (.cells 3 [(vS x_5.Player),(vI x_5.X),(vI x_5.Y)]))]:Hp)) (fun _=>True) ?_ ?_
     ·refine aa (aG Gg rfl 1 rfl wz (aC 0 0 il ft sz3 ag3 rfl rfl (vI x_5.X) rfl wz ?_))
      obtain ⟨r_19,hr_20,h_18⟩:=bind_some h_18
      refine aF (aY hr_20) rfl pM rfl rfl rfl rfl wz ?_
      rcases ak h_18 with⟨hc_21,h_18⟩ | ⟨hc_21,h_18⟩
      ·refine av rfl hc_21 wz (ai wa (ai wa (ai wa (ae (vB true) wz rfl (ae (vB true) wz rfl (aj ?_))))))
       obtain rfl:=ah h_18
       exact cu
      ·refine av rfl hc_21 wz (aG Gu rfl 2 rfl wa (aC 0 0 il ft sz3 ag3 rfl rfl (vI x_5.Y) rfl wa ?_))
       obtain ⟨r_22,hr_23,h_18⟩:=bind_some h_18
       refine aF (aY hr_23) rfl pM rfl rfl rfl rfl wa (ae (vB r_22) wz rfl (ae (vB r_22) wz rfl (aj ?_)))
       obtain rfl:=ah h_18
       exact cu
     ·rintro ⟨⟩ _ sl_ H_ hp_ hq_
      refine aK _ hp_ hq_ ?_
      rcases ak hc_9 with⟨hc_24,hc_9⟩ | ⟨hc_24,hc_9⟩
      ·refine ay rfl hc_24 (af (aa (ae (vI 1) wz rfl (aj ?_))))
       obtain rfl:=ah hc_9
       obtain rfl:=ah hL_10
       obtain rfl:=ah hF
       exact aB (aP (.inr rfl) [(vI 1)] ⟨rfl,trivial⟩ rfl rfl rfl)
      ·refine ax rfl hc_24 (af ?_)
       obtain ⟨v_25,h_26,hc_9⟩:=bind_some hc_9
       refine aD (β:=Unit) (fun _=>([(0,(vL Post.enc l_1)),(8,(vL Post.enc l_1)),(9,(vI (l_1.length:Int))),(10,(vI (k_3:Int))),(29,(vB v_25))]:List (Nat×V))) (fun _=>([(n_13,some (.cells 3 [(vS x_5.Player),(vI x_5.X),(vI x_5.Y)]))]:Hp)) (fun _=>True) ?_ ?_
       ·refine bA (ae (vI (k_3:Int)) wz rfl (ae (vB (decide ((k_3:Int) > 0))) wz rfl ?_))
        rcases ak h_26 with⟨hc_27,h_26⟩ | ⟨hc_27,h_26⟩
        ·refine av rfl hc_27 wz (aG uh rfl 0 rfl wa (aC 4 0 (.inr (by kernel_rfl)) (fun _ _ ag=>trivial) sz9 ag9 rfl rfl (vS x_5.Player) rfl wa (ae (vL Post.enc l_1) wa rfl (ae (vI (k_3:Int)) wa rfl (ae (vI (w64 ((k_3:Int) - 1))) wa rfl ?_)))))
         obtain ⟨y_28,hy_29,h_26⟩:=bind_some h_26
         refine dI Er rfl rfl hy_29 rfl wa (pq uh rfl [.str y_28.Player,.int .i64 y_28.X,.int .i64 y_28.Y] rfl rfl wa (bG sz9 ag9 rfl (vS y_28.Player) rfl wa (ae (vB (sLe x_5.Player y_28.Player)) wa rfl (ae (vB (sLe x_5.Player y_28.Player)) wz rfl (ae (vB (sLe x_5.Player y_28.Player)) wz rfl (aj ?_))))))
         obtain rfl:=ah h_26
         exact cu
        ·refine av rfl hc_27 wz (ai wa (ai wa (ai wa (ai wa (ai wa (ai wa (ai wa (ai wa (ai wa (ae (vB false) wz rfl (ae (vB false) wz rfl (aj ?_))))))))))))
         obtain rfl:=ah h_26
         exact cu
       ·rintro ⟨⟩ _ sl_ H_ hp_ hq_
        refine aK _ hp_ hq_ ?_
        rcases ak hc_9 with⟨hc_30,hc_9⟩ | ⟨hc_30,hc_9⟩
        ·refine ay rfl hc_30 (af (aa (ae (vI 7) wz rfl (aj ?_))))
         obtain rfl:=ah hc_9
         obtain rfl:=ah hL_10
         obtain rfl:=ah hF
         exact aB (aP (.inr rfl) [(vI 7)] ⟨rfl,trivial⟩ rfl rfl rfl)
        ·refine ax rfl hc_30 (au (aa (dY (bn hD_6 hn_7) wz rfl (ae (vI ((k_3 + 1:Nat):Int)) wz rfl (aj ?_)))))
         obtain rfl:=ah hc_9
         exact aU (k_3 + 1,l_4,()) ⟨hL_10,aR hD_6⟩ (Nat.lt_succ_self _) rfl (aI rfl)
  ·rintro s_8 ho_ sl_ H_ hp_ hq_
   subst ho_
   refine aK _ hp_ hq_ (af (aa (ae (vI 0) wz rfl (aj ?_))))
   obtain rfl:=ah hF
   exact aB (aP (.inr rfl) [(vI 0)] ⟨rfl,trivial⟩ rfl rfl rfl)
theorem qJ {l_1:(List Alert)} {posts_2:(List Post)} {r:Int} (hF:eX l_1 posts_2=some r) :
  FnM Tryz.prog 83 [(vL Alert.enc l_1),(vL Post.enc posts_2)] [] (vI r) []:=by
 refine FnM.of_wH ⟨Tryz.prog,13,[],[]⟩ rfl Tryz.func83 rfl rfl (Nat.le_of_ble_eq_true rfl) (by kernel_rfl) ?_
 unfold eX at hF
 refine af (aa (ae (vI 0) wz rfl (aj (af (af (aa (ae (vL Alert.enc l_1) wz rfl ?_)))))))
 obtain ⟨r_3,hr_4,hF⟩:=bind_some hF
 refine aF (vg hr_4) rfl hb161 rfl rfl rfl rfl wz (ae (vI r_3) wz rfl (aj (af (aa (ae (vI r_3) wz rfl (ae (vB (r_3 != 0)) wz rfl (aj ?_)))))))
 rcases ak hF with⟨hc_5,hF⟩ | ⟨hc_5,hF⟩
 ·refine ay rfl hc_5 (af (aa (ae (vI r_3) wz rfl (ae (vI r_3) wz rfl (aj ?_)))))
  obtain rfl:=ah hF
  exact aB (aP (.inr rfl) [(vI r_3)] ⟨rfl,trivial⟩ rfl rfl rfl)
 ·refine ax rfl hc_5 (au (af (aa (ae (vL Post.enc posts_2) wz rfl ?_))))
  obtain ⟨r_6,hr_7,hF⟩:=bind_some hF
  refine aF (vY hr_7) rfl hb162 rfl rfl rfl rfl wz (ae (vI r_6) wz rfl (aj ?_))
  obtain rfl:=ah hF
  exact aB (aP (.inr rfl) [(vI r_6)] ⟨rfl,trivial⟩ rfl rfl rfl)
theorem pz {b_1:Bool} {r:Int} (hF:iC b_1=some r) :
  FnM Tryz.prog 121 [(vB b_1)] [] (vI r) []:=by
 refine FnM.of_wH ⟨Tryz.prog,4,[],[]⟩ rfl Tryz.func121 rfl rfl (Nat.le_of_ble_eq_true rfl) (by kernel_rfl) ?_
 unfold iC at hF
 refine af (aa (ae (vI 0) wz rfl (aj (af (af (aa (ae (vB b_1) wz rfl (aj ?_))))))))
 rcases ak hF with⟨hc_2,hF⟩ | ⟨hc_2,hF⟩
 ·refine ay rfl hc_2 (af (aa (ae (vI 1) wz rfl (aj ?_))))
  obtain rfl:=ah hF
  exact aB (aP (.inr rfl) [(vI 1)] ⟨rfl,trivial⟩ rfl rfl rfl)
 ·refine ax rfl hc_2 (au (af (aa (ae (vI 0) wz rfl (aj ?_)))))
  obtain rfl:=ah hF
  exact aB (aP (.inr rfl) [(vI 0)] ⟨rfl,trivial⟩ rfl rfl rfl)
theorem rC {a_1:Receipt} {b_2:Receipt} {r:Int} (hF:fZ a_1 b_2=some r) :
  FnM Tryz.prog 113 [(.d (.agg (Receipt.enc a_1))),(.d (.agg (Receipt.enc b_2)))] [] (vI r) []:=by
 refine FnM.of_wH ⟨Tryz.prog,24,[],[]⟩ rfl Tryz.func113 rfl rfl (Nat.le_of_ble_eq_true rfl) (by kernel_rfl) ?_
 unfold fZ at hF
 refine af (aa (fB 0 (.inl rfl) [(vS a_1.Player),(vS a_1.Alert),(vI a_1.At),(vB a_1.Seen)] rfl rfl wz (fun n_3=>fB 0 (.inl rfl) [(vS b_2.Player),(vS b_2.Alert),(vI b_2.At),(vB b_2.Seen)] rfl rfl wz (fun n_4=>ae (vI 0) wz rfl (aj (af (bA (aG Dp rfl 0 rfl wz (aC 1 0 (.inr (by kernel_rfl)) (fun _ _ ag=>trivial) sz9 ag9 rfl rfl (vS a_1.Player) rfl wz (aG Dp rfl 0 rfl wz (aC 3 1 (.inr (by kernel_rfl)) (fun _ _ ag=>⟨.inl ⟨rfl,rfl⟩,trivial⟩) sz9 ag9 rfl rfl (vS b_2.Player) rfl wz ?_)))))))))))
 obtain ⟨r_5,hr_6,hF⟩:=bind_some hF
 refine aF (gq hr_6) rfl CG rfl rfl rfl rfl wz (aG DL rfl 1 rfl wz (aC 6 0 (.inr (by kernel_rfl)) (fun _ _ ag=>⟨.inl ⟨rfl,rfl⟩,⟨.inl ⟨rfl,rfl⟩,trivial⟩⟩) sz9 ag9 rfl rfl (vS a_1.Alert) rfl wz (aG DL rfl 1 rfl wz (aC 8 1 (.inr (by kernel_rfl)) (fun _ _ ag=>⟨.inl ⟨rfl,rfl⟩,⟨.inl ⟨rfl,rfl⟩,⟨.inl ⟨rfl,rfl⟩,trivial⟩⟩⟩) sz9 ag9 rfl rfl (vS b_2.Alert) rfl wz ?_))))
 obtain ⟨r_7,hr_8,hF⟩:=bind_some hF
 refine aF (gq hr_8) rfl CG rfl rfl rfl rfl wz (aG JJ rfl 3 rfl wz (aC 11 0 (.inr (by kernel_rfl)) (fun _ _ ag=>⟨.inl ⟨rfl,rfl⟩,⟨.inl ⟨rfl,rfl⟩,⟨.inl ⟨rfl,rfl⟩,⟨.inl ⟨rfl,rfl⟩,trivial⟩⟩⟩⟩) sz4 ag4 rfl rfl (vB a_1.Seen) rfl wz ?_))
 obtain ⟨r_9,hr_10,hF⟩:=bind_some hF
 refine aF (pz hr_10) rfl hb121 rfl rfl rfl rfl wz (aG JJ rfl 3 rfl wz (aC 14 1 (.inr (by kernel_rfl)) (fun _ _ ag=>⟨.inl ⟨rfl,rfl⟩,⟨.inl ⟨rfl,rfl⟩,⟨.inl ⟨rfl,rfl⟩,⟨.inl ⟨rfl,rfl⟩,⟨.inl ⟨rfl,rfl⟩,trivial⟩⟩⟩⟩⟩) sz4 ag4 rfl rfl (vB b_2.Seen) rfl wz ?_))
 obtain ⟨r_11,hr_12,hF⟩:=bind_some hF
 refine aF (pz hr_12) rfl hb121 rfl rfl rfl rfl wz ?_
 obtain ⟨r_13,hr_14,hF⟩:=bind_some hF
 refine aF (mr hr_14) rfl J7 rfl rfl rfl rfl wz (eQ (([r_5,r_7,r_13]:List Int).map eI) nM Di rfl rfl rfl rfl rfl wz ?_)
 obtain ⟨r_15,hr_16,hF⟩:=bind_some hF
 refine aF (oq hr_16) rfl HZ rfl rfl rfl rfl wz (ae (vI r_15) wz rfl (aj ?_))
 obtain rfl:=ah hF
 exact aB (aP (.inr rfl) [(vI r_15)] ⟨rfl,trivial⟩ rfl rfl rfl)
theorem sZ {l_1:(List Receipt)} {r:Int} (hF:iw l_1=some r) :
  FnM Tryz.prog 52 [(vL Receipt.enc l_1)] [] (vI r) []:=by
 refine FnM.of_wH ⟨Tryz.prog,45,[],[]⟩ rfl Tryz.func52 rfl rfl (Nat.le_of_ble_eq_true rfl) (by kernel_rfl) ?_
 unfold iw at hF
 refine af (aa (ae (vI 0) wz rfl (aj (af (af (aa (ae (vL Receipt.enc l_1) wz rfl (bO un89 rfl wz (ae (vB (decide ((l_1.length:Int) > 2000))) wz rfl (aj ?_))))))))))
 rcases ak hF with⟨hc_2,hF⟩ | ⟨hc_2,hF⟩
 ·refine ay rfl hc_2 (af (aa (ae (vI 2) wz rfl (aj ?_))))
  obtain rfl:=ah hF
  exact aB (aP (.inr rfl) [(vI 2)] ⟨rfl,trivial⟩ rfl rfl rfl)
 ·refine ax rfl hc_2 (au (af (af (aa (ae (vL Receipt.enc l_1) wz rfl (bO un89 rfl wz (ae (vI 0) wz rfl (aj ?_))))))))
  obtain ⟨o_11,hj_12,hF⟩:=bind_some hF
  obtain ⟨hn_7,hj_12⟩:=aW hj_12
  refine aD (β:=(Unit)) (fun (s_8:Unit)=>([]:List (Nat×V))) (fun (s_8:Unit)=>([]:Hp)) (fun p=>o_11 = .go p) ?_ ?_
  ·refine aA (aV (β:=Nat×(List Receipt)×(Unit)) (fun p=>(fun (k_3:Nat) (l_4:List Receipt) (s_8:Unit)=>([(0,(vL Receipt.enc l_1)),(8,(vL Receipt.enc l_1)),(9,(vI (l_1.length:Int))),(10,(vI (k_3:Int)))]:List (Nat×V))) p.1 p.2.1 p.2.2) (fun p=>(fun (k_3:Nat) (l_4:List Receipt) (s_8:Unit)=>([]:Hp)) p.1 p.2.1 p.2.2) (fun p=>forR (fun k x s=>fM l_1 k x s) p.2.1 p.1 p.2.2=some o_11∧(l_1).drop p.1=p.2.1) (fun p=>p.2.1.length) (0,l_1,()) ⟨hj_12,rfl⟩ rfl (aI rfl) ?_)
   rintro ⟨k_3,l_4,s_8⟩ ⟨hL_10,hD_6⟩
   dsimp only at hL_10 hD_6
   cases l_4 with
   | nil =>
    obtain rfl:=ah hL_10
    refine af (aa (ae (vB (decide ((k_3:Int) < (l_1.length:Int)))) wz rfl (aj ?_)))
    refine af (ax rfl (drop_nil hD_6) (aS ?_))
    exact aO (s_8) rfl rfl (aI rfl)
   | cons x_5 l_4 =>
    obtain ⟨c_,hc_9,hL_10⟩:=bind_some hL_10
    refine af (aa (ae (vB (decide ((k_3:Int) < (l_1.length:Int)))) wz rfl (aj ?_)))
    refine af (ay rfl (aX hD_6) (au ?_))
    unfold fM at hc_9
    refine af (aA (af (aa (ae (vI (k_3:Int)) wz rfl (dI K9 rfl rfl (bC hD_6) rfl wz (bG EC ag91 rfl (.d (.agg (Receipt.enc x_5))) rfl wz (dh 0 (.inl rfl) z91 rfl wz (fun n_13=>ae (vI (k_3:Int)) wz rfl (fD 0 il ft 0 EC rfl rfl [(vS x_5.Player),(vS x_5.Alert),(vI x_5.At),(vB x_5.Seen)] rfl wz (aj (aA (af ?_))))))))))))
    obtain ⟨v_14,h_15,hc_9⟩:=bind_some hc_9
    refine aD (β:=Unit) (fun _=>([(0,(vL Receipt.enc l_1)),(3,(vI (k_3:Int))),(4,(.ref n_13 0 0)),(8,(vL Receipt.enc l_1)),(9,(vI (l_1.length:Int))),(10,(vI (k_3:Int))),(15,(vB v_14))]:List (Nat×V))) (fun _=>([(n_13,some (.cells 4 [(vS x_5.Player),(vS x_5.Alert),(vI x_5.At),(vB x_5.Seen)]))]:Hp)) (fun _=>True) ?_ ?_
    ·refine aa (aG Dp rfl 0 rfl wz (aC 0 0 il ft sz9 ag9 rfl rfl (vS x_5.Player) rfl wz ?_))
     obtain ⟨r_16,hr_17,h_15⟩:=bind_some h_15
     refine aF (eB hr_17) rfl rV rfl rfl rfl rfl wz (ae (vB (!r_16)) wz rfl ?_)
     rcases ak h_15 with⟨hc_18,h_15⟩ | ⟨hc_18,h_15⟩
     ·refine av rfl hc_18 wz (ai wa (ai wa (ai wa (ai wa (ae (vB true) wz rfl (ae (vB true) wz rfl (aj ?_)))))))
      obtain rfl:=ah h_15
      exact cu
     ·refine av rfl hc_18 wz (aG DL rfl 1 rfl wa (aC 0 0 il ft sz9 ag9 rfl rfl (vS x_5.Alert) rfl wa ?_))
      obtain ⟨r_19,hr_20,h_15⟩:=bind_some h_15
      refine aF (eB hr_20) rfl rV rfl rfl rfl rfl wa (ae (vB (!r_19)) wa rfl (ae (vB (!r_19)) wz rfl (ae (vB (!r_19)) wz rfl (aj ?_))))
      obtain rfl:=ah h_15
      exact cu
    ·rintro ⟨⟩ _ sl_ H_ hp_ hq_
     refine aK _ hp_ hq_ ?_
     rcases ak hc_9 with⟨hc_21,hc_9⟩ | ⟨hc_21,hc_9⟩
     ·refine ay rfl hc_21 (af (aa (ae (vI 5) wz rfl (aj ?_))))
      obtain rfl:=ah hc_9
      obtain rfl:=ah hL_10
      obtain rfl:=ah hF
      exact aB (aP (.inr rfl) [(vI 5)] ⟨rfl,trivial⟩ rfl rfl rfl)
     ·refine ax rfl hc_21 (af (aa (aG Ec rfl 2 rfl wz (aC 0 0 il ft sz3 ag3 rfl rfl (vI x_5.At) rfl wz ?_))))
      obtain ⟨r_22,hr_23,hc_9⟩:=bind_some hc_9
      refine aF (eU hr_23) rfl xK rfl rfl rfl rfl wz (ae (vB (!r_22)) wz rfl (ae (vB (!r_22)) wz rfl (aj ?_)))
      rcases ak hc_9 with⟨hc_24,hc_9⟩ | ⟨hc_24,hc_9⟩
      ·refine ay rfl hc_24 (af (aa (ae (vI 1) wz rfl (aj ?_))))
       obtain rfl:=ah hc_9
       obtain rfl:=ah hL_10
       obtain rfl:=ah hF
       exact aB (aP (.inr rfl) [(vI 1)] ⟨rfl,trivial⟩ rfl rfl rfl)
      ·refine ax rfl hc_24 (af ?_)
       obtain ⟨v_25,h_26,hc_9⟩:=bind_some hc_9
       refine aD (β:=Unit) (fun _=>([(0,(vL Receipt.enc l_1)),(8,(vL Receipt.enc l_1)),(9,(vI (l_1.length:Int))),(10,(vI (k_3:Int))),(31,(vB v_25))]:List (Nat×V))) (fun _=>([(n_13,some (.cells 4 [(vS x_5.Player),(vS x_5.Alert),(vI x_5.At),(vB x_5.Seen)]))]:Hp)) (fun _=>True) ?_ ?_
       ·refine bA (ae (vI (k_3:Int)) wz rfl (ae (vB (decide ((k_3:Int) > 0))) wz rfl ?_))
        rcases ak h_26 with⟨hc_27,h_26⟩ | ⟨hc_27,h_26⟩
        ·refine av rfl hc_27 wz (ae (vL Receipt.enc l_1) wa rfl (ae (vI (k_3:Int)) wa rfl (ae (vI (w64 ((k_3:Int) - 1))) wa rfl ?_)))
         obtain ⟨y_28,hy_29,h_26⟩:=bind_some h_26
         refine dI K9 rfl rfl hy_29 rfl wa (bG EC ag91 rfl (.d (.agg (Receipt.enc y_28))) rfl wa (aC 8 0 (.inr (by kernel_rfl)) (fun _ _ ag=>trivial) EC ag91 rfl rfl (.d (.agg (Receipt.enc x_5))) rfl wa ?_))
         obtain ⟨r_30,hr_31,h_26⟩:=bind_some h_26
         refine aF (rC hr_31) rfl hb113 rfl rfl rfl rfl wa (ae (vB (decide (r_30≥0))) wa rfl (ae (vB (decide (r_30≥0))) wz rfl (ae (vB (decide (r_30≥0))) wz rfl (aj ?_))))
         obtain rfl:=ah h_26
         exact cu
        ·refine av rfl hc_27 wz (ai wa (ai wa (ai wa (ai wa (ai wa (ai wa (ai wa (ai wa (ae (vB false) wz rfl (ae (vB false) wz rfl (aj ?_)))))))))))
         obtain rfl:=ah h_26
         exact cu
       ·rintro ⟨⟩ _ sl_ H_ hp_ hq_
        refine aK _ hp_ hq_ ?_
        rcases ak hc_9 with⟨hc_32,hc_9⟩ | ⟨hc_32,hc_9⟩
        ·refine ay rfl hc_32 (af (aa (ae (vI 7) wz rfl (aj ?_))))
         obtain rfl:=ah hc_9
         obtain rfl:=ah hL_10
         obtain rfl:=ah hF
         exact aB (aP (.inr rfl) [(vI 7)] ⟨rfl,trivial⟩ rfl rfl rfl)
        ·refine ax rfl hc_32 (au (aa (dY (bn hD_6 hn_7) wz rfl (ae (vI ((k_3 + 1:Nat):Int)) wz rfl (aj ?_)))))
         obtain rfl:=ah hc_9
         exact aU (k_3 + 1,l_4,()) ⟨hL_10,aR hD_6⟩ (Nat.lt_succ_self _) rfl (aI rfl)
  ·rintro s_8 ho_ sl_ H_ hp_ hq_
   subst ho_
   refine aK _ hp_ hq_ (af (aa (ae (vI 0) wz rfl (aj ?_))))
   obtain rfl:=ah hF
   exact aB (aP (.inr rfl) [(vI 0)] ⟨rfl,trivial⟩ rfl rfl rfl)
theorem x8 {l_1:(List Alert)} {posts_2:(List Post)} {r_3:(List Receipt)} {r:Int} (hF:ll l_1 posts_2 r_3=some r) :
  FnM Tryz.prog 100 [(vL Alert.enc l_1),(vL Post.enc posts_2),(vL Receipt.enc r_3)] [] (vI r) []:=by
 refine FnM.of_wH ⟨Tryz.prog,16,[],[]⟩ rfl Tryz.func100 rfl rfl (Nat.le_of_ble_eq_true rfl) (by kernel_rfl) ?_
 unfold ll at hF
 refine af (aa (ae (vI 0) wz rfl (aj (af (af (aa (ae (vL Alert.enc l_1) wz rfl (ae (vL Post.enc posts_2) wz rfl ?_))))))))
 obtain ⟨r_4,hr_5,hF⟩:=bind_some hF
 refine aF (qJ hr_5) rfl hb83 rfl rfl rfl rfl wz (ae (vI r_4) wz rfl (aj (af (aa (ae (vI r_4) wz rfl (ae (vB (r_4 != 0)) wz rfl (aj ?_)))))))
 rcases ak hF with⟨hc_6,hF⟩ | ⟨hc_6,hF⟩
 ·refine ay rfl hc_6 (af (aa (ae (vI r_4) wz rfl (ae (vI r_4) wz rfl (aj ?_)))))
  obtain rfl:=ah hF
  exact aB (aP (.inr rfl) [(vI r_4)] ⟨rfl,trivial⟩ rfl rfl rfl)
 ·refine ax rfl hc_6 (au (af (aa (ae (vL Receipt.enc r_3) wz rfl ?_))))
  obtain ⟨r_7,hr_8,hF⟩:=bind_some hF
  refine aF (sZ hr_8) rfl hb52 rfl rfl rfl rfl wz (ae (vI r_7) wz rfl (aj ?_))
  obtain rfl:=ah hF
  exact aB (aP (.inr rfl) [(vI r_7)] ⟨rfl,trivial⟩ rfl rfl rfl)
end Go.Proofs.YtjhcehhmdmbleaaGreatDoor.Law

