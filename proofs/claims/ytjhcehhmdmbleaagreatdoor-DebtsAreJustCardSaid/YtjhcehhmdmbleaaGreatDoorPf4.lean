/-
 The machine computes these plain functions (written by a program of ours).
-/
import Derived.Test.YtjhcehhmdmbleaaGreatDoorFacts
import Derived.Test.YtjhcehhmdmbleaaGreatDoorDefs
import Derived.Test.YtjhcehhmdmbleaaGreatDoorPf3
open Go Go.Eng Go.Proofs
namespace Go.Proofs.YtjhcehhmdmbleaaGreatDoor.Law
set_option maxRecDepth 100000
set_option linter.unusedVariables false
set_option maxHeartbeats 1000000
theorem oQ {s_1:(List Int)} {r:(List Int)} (hF:bZ s_1=some r) :
  FnM Tryz.prog 91 [(dV (aH 0) 1 s_1)] (([]:List Box)++gI 1 eI s_1) (vL eI r) (([]:List Box).map some++gT s_1 none):=by
 refine FnM.of_wHv ⟨Tryz.prog,61,[],[]⟩ rfl Tryz.func91 rfl rfl (Nat.le_of_ble_eq_true rfl) (by kernel_rfl) ?_
 unfold bZ at hF
 refine af (aa (ae .nil wz rfl (aj (af (af (aa (ae (dV (aH 0) 1 s_1) wz rfl (DC vZ rfl wz (ae (vB (decide ((s_1.length:Int) < 2))) wz rfl (aj ?_))))))))))
 rcases ak hF with⟨hc_2,hF⟩ | ⟨hc_2,hF⟩
 ·refine ay rfl hc_2 (af (aa (ae (dV (aH 0) 1 s_1) wz rfl (ae (dV (aH 0) 1 s_1) wz rfl (aj (gM 0 rfl (wS 0 0 rfl rfl (wS 2 0 rfl rfl (wS 6 0 rfl rfl (wS 9 0 rfl rfl (Dn (i:=0) rfl ?_)))))))))))
  obtain rfl:=ah hF
  exact aB (Av (bs:=([]:List Box)) (os:=([]:List Box)) (xs:=s_1) (o:=none) (.inr rfl) [(vL eI s_1)] ⟨rfl,trivial⟩ rfl rfl rfl rfl rfl (by kernel_rfl) zR rfl)
 ·refine ax rfl hc_2 (au (af (af (aa (ae (vI 1) wz rfl (aj ?_))))))
  obtain ⟨o_11,hj_12,hF⟩:=bind_some hF
  obtain ⟨nq_52,hj_12⟩:=dB hj_12
  refine aD (β:=(Int)) (fun (s_8:Int)=>([(0,(dV (aH 0) 1 s_1))]:List (Nat×V))) (fun (s_8:Int)=>([((aH 0),gB 1 eI s_1)]:Hp)) (fun p=>o_11 = .go p) ?_ ?_
  ·refine aA (aV (β:=Nat×(Int)) (fun p=>(fun (k_3:Nat) (s_8:Int)=>([(0,(dV (aH 0) 1 s_1)),(3,(vI s_8))]:List (Nat×V))) p.1 p.2) (fun p=>(fun (k_3:Nat) (s_8:Int)=>([((aH 0),gB 1 eI s_1)]:Hp)) p.1 p.2) (fun p=>iterN (fun s=>aQ s_1 s) p.1 p.2=some o_11) (fun p=>p.1) (nq_52,1) hj_12 rfl (aI rfl) ?_)
   rintro ⟨k_3,s_8⟩ hL_10
   dsimp only at hL_10
   cases k_3 with
   | zero=>cases hL_10
   | succ k_3 =>
    obtain ⟨c_,hc_9,hL_10⟩:=bind_some hL_10
    unfold aQ at hc_9
    refine af (af (aa (ae (vI s_8) wz rfl (ae (dV (aH 0) 1 s_1) wz rfl (DC vZ rfl wz (ae (vB (decide (s_8 < (s_1.length:Int)))) wz rfl (aj ?_)))))))
    rcases ak hc_9 with⟨hc_13,hc_9⟩ | ⟨hc_13,hc_9⟩
    ·refine ay rfl hc_13 (au (af (aA (af (bA (ae (dV (aH 0) 1 s_1) wz rfl (ae (vI s_8) wz rfl ?_)))))))
     obtain ⟨_,hi_14,hc_9⟩:=bind_some hc_9
     refine ng nM rfl rfl (lN hi_14) (iV hi_14) wz ?_
     obtain ⟨e_15,hy_16,hc_9⟩:=bind_some hc_9
     refine nz 3 0 (.inr (by kernel_rfl)) (fun _ _ ag=>trivial) sz3 ag3 rfl rfl hy_16 (vI e_15) rfl wz (ae (dV (aH 0) 1 s_1) wz rfl (ae (vI s_8) wz rfl (ae (vI (w64 (s_8 - 1))) wz rfl ?_)))
     obtain ⟨_,hi_17,hc_9⟩:=bind_some hc_9
     refine ng nM rfl rfl (lN hi_17) (iV hi_17) wz ?_
     obtain ⟨e_18,hy_19,hc_9⟩:=bind_some hc_9
     refine nz 8 0 (.inr (by kernel_rfl)) (fun _ _ ag=>⟨.inl ⟨rfl,rfl⟩,trivial⟩) sz3 ag3 rfl rfl hy_19 (vI e_18) rfl wz (ae (vB (e_15 == e_18)) wz rfl (aj ?_))
     rcases ak hc_9 with⟨hc_20,hc_9⟩ | ⟨hc_20,hc_9⟩
     ·refine ay rfl hc_20 (af (aa (ae (dV (aH 0) 1 s_1) wz rfl (ae (vI s_8) wz rfl ?_))))
      obtain ⟨_,hn_21,hc_9⟩:=bind_some hc_9
      replace hn_21:=neL_ne hn_21
      refine fU (v':=(vV (aH 0) 1 s_1)) 0 rfl (xX hn_21) (fU (v':=(vV (aH 0) 1 s_1)) 11 rfl (xX hn_21) (fU (v':=(vV (aH 0) 1 s_1)) 16 rfl (xX hn_21) (fU (v':=(vV (aH 0) 1 s_1)) 20 rfl (xX hn_21) (fU (v':=(vV (aH 0) 1 s_1)) 26 rfl (xX hn_21) (JR 0 rfl (gB_cons hn_21) ?_)))))
      obtain ⟨_,hr_22,hc_9⟩:=bind_some hc_9
      refine Fv vZ sz3 rfl rfl hr_22 wz (ae (.vs (aH 0) 1 ((s_8).toNat) (((s_1.length:Int)).toNat - (s_8).toNat)) wz rfl (aj (af (af (aa (ae (vI 1) wz rfl (aj ?_)))))))
      obtain ⟨o_31,hj_32,hc_9⟩:=bind_some hc_9
      obtain ⟨nq_51,hj_32⟩:=dB hj_32
      refine aD (β:=((List Int)×Int×Int)) (fun (s_28:(List Int)×Int×Int)=>([(0,(vV (aH 0) 1 s_28.1)),(3,(vI s_28.2.1))]:List (Nat×V))) (fun (s_28:(List Int)×Int×Int)=>([((aH 0),some (bV 1 eI s_28.1))]:Hp)) (fun p=>o_31 = .go p) ?_ ?_
      ·refine aA (aV (β:=Nat×((List Int)×Int×Int)) (fun p=>(fun (k_23:Nat) (s_28:(List Int)×Int×Int)=>([(0,(vV (aH 0) 1 s_28.1)),(3,(vI s_28.2.1)),(4,(.vs (aH 0) 1 ((s_8).toNat) (((s_1.length:Int)).toNat - (s_8).toNat))),(5,(vI s_28.2.2))]:List (Nat×V))) p.1 p.2) (fun p=>(fun (k_23:Nat) (s_28:(List Int)×Int×Int)=>([((aH 0),some (bV 1 eI s_28.1))]:Hp)) p.1 p.2) (fun p=>iterN (fun s=>bH s_1 s_8 s) p.1 p.2=some o_31) (fun p=>p.1) (nq_51,(s_1,s_8,1)) hj_32 rfl (aI rfl) ?_)
       rintro ⟨k_23,s_28⟩ hL_30
       dsimp only at hL_30
       cases k_23 with
       | zero=>cases hL_30
       | succ k_23 =>
        obtain ⟨c_,hc_29,hL_30⟩:=bind_some hL_30
        unfold bH at hc_29
        refine af (af (aa (ae (vI s_28.2.2) wz rfl (ae (.vs (aH 0) 1 ((s_8).toNat) (((s_1.length:Int)).toNat - (s_8).toNat)) wz rfl (h_lenp vZ rfl wz (ae (vB (decide (s_28.2.2 < (((((s_1.length:Int)).toNat - (s_8).toNat):Nat):Int)))) wz rfl (aj ?_)))))))
        rcases ak hc_29 with⟨hc_33,hc_29⟩ | ⟨hc_33,hc_29⟩
        ·refine ay rfl hc_33 (au (af (aA (af (bA (ae (.vs (aH 0) 1 ((s_8).toNat) (((s_1.length:Int)).toNat - (s_8).toNat)) wz rfl (ae (vI s_28.2.2) wz rfl ?_)))))))
         obtain ⟨_,hi_34,hc_29⟩:=bind_some hc_29
         refine CX nM rfl rfl (K4 hi_34) (GL hi_34) wz ?_
         obtain ⟨e_35,hy_36,hc_29⟩:=bind_some hc_29
         refine Ii 3 0 (.inr (by kernel_rfl)) (fun _ _ ag=>trivial) sz3 ag3 rfl rfl hy_36 (vI e_35) rfl wz (ae (.vs (aH 0) 1 ((s_8).toNat) (((s_1.length:Int)).toNat - (s_8).toNat)) wz rfl (ae (vI s_28.2.2) wz rfl (ae (vI (w64 (s_28.2.2 - 1))) wz rfl ?_)))
         obtain ⟨_,hi_37,hc_29⟩:=bind_some hc_29
         refine CX nM rfl rfl (K4 hi_37) (GL hi_37) wz ?_
         obtain ⟨e_38,hy_39,hc_29⟩:=bind_some hc_29
         refine Ii 8 0 (.inr (by kernel_rfl)) (fun _ _ ag=>⟨.inl ⟨rfl,rfl⟩,trivial⟩) sz3 ag3 rfl rfl hy_39 (vI e_38) rfl wz (ae (vB (e_35 != e_38)) wz rfl (aj ?_))
         obtain ⟨v_40,h_41,hc_29⟩:=bind_some hc_29
         refine aD (β:=Unit) (fun _=>([(0,(vV (aH 0) 1 v_40.1)),(3,(vI v_40.2)),(4,(.vs (aH 0) 1 ((s_8).toNat) (((s_1.length:Int)).toNat - (s_8).toNat))),(5,(vI s_28.2.2))]:List (Nat×V))) (fun _=>([((aH 0),some (bV 1 eI v_40.1))]:Hp)) (fun _=>True) ?_ ?_
         ·rcases ak h_41 with⟨hc_42,h_41⟩ | ⟨hc_42,h_41⟩
          ·refine ay rfl hc_42 (af (aa (ae (vV (aH 0) 1 s_28.1) wz rfl (ae (vI s_28.2.1) wz rfl (ae (.vs (aH 0) 1 ((s_8).toNat) (((s_1.length:Int)).toNat - (s_8).toNat)) wz rfl (ae (vI s_28.2.2) wz rfl ?_))))))
           obtain ⟨_,hi_43,h_41⟩:=bind_some h_41
           refine CX nM rfl rfl (K4 hi_43) (GL hi_43) wz ?_
           obtain ⟨e_44,hy_45,h_41⟩:=bind_some h_41
           refine Ii 0 0 il ft sz3 ag3 rfl rfl hy_45 (vI e_44) rfl wz ?_
           obtain ⟨_,hi_46,h_41⟩:=bind_some h_41
           refine CX nM rfl rfl (lN hi_46) (iV hi_46) wz ?_
           obtain ⟨e_47,hy_48,h_41⟩:=bind_some h_41
           refine h_stv 0 il ft 0 sz3 rfl rfl hy_48 e_44 rfl wz (fU (v':=(vV (aH 0) 1 (s_28.1.set (0 + (s_28.2.1).toNat) e_44))) 0 rfl (Dk (by simp)) (fU (v':=(vV (aH 0) 1 (s_28.1.set (0 + (s_28.2.1).toNat) e_44))) 45 rfl (Dk (by simp)) (aj (aa (ae (vI s_28.2.1) wz rfl (ae (vI (w64 (s_28.2.1 + 1))) wz rfl (ae (vI (w64 (s_28.2.1 + 1))) wz rfl (aj ?_))))))))
           obtain rfl:=ah h_41
           exact cu
          ·refine ax rfl hc_42 (au ?_)
           obtain rfl:=ah h_41
           exact cu
         ·rintro ⟨⟩ _ sl_ H_ hp_ hq_
          refine aK _ hp_ hq_ (aa (ae (vI s_28.2.2) wz rfl (ae (vI (w64 (s_28.2.2 + 1))) wz rfl (ae (vI (w64 (s_28.2.2 + 1))) wz rfl (aj ?_)))))
          obtain rfl:=ah hc_29
          exact aU (k_23,(v_40.1,v_40.2,(w64 (s_28.2.2 + 1)))) hL_30 (Nat.lt_succ_self _) rfl (aI rfl)
        ·refine ax rfl hc_33 (aS ?_)
         obtain rfl:=ah hc_29
         obtain rfl:=ah hL_30
         exact aO ((s_28.1,s_28.2.1,s_28.2.2)) rfl rfl (aI rfl)
      ·rintro s_28 ho_ sl_ H_ hp_ hq_
       subst ho_
       refine aK _ hp_ hq_ (af (aa (ae (vV (aH 0) 1 s_28.1) wz rfl (ae (vI s_28.2.1) wz rfl ?_))))
       obtain ⟨_,hr_49,hc_9⟩:=bind_some hc_9
       refine Fv vZ sz3 rfl rfl hr_49 wz (h_clear (i:=0) 0 il ft 0 Lu sz3 z3 rfl rfl rfl (by decide) rfl (xM hr_49) rfl wz (fU (v':=(vV (aH 0) 1 (s_28.1.take ((s_28.2.1).toNat)++List.replicate (((s_28.1.length:Int)).toNat - (s_28.2.1).toNat) 0++s_28.1.drop (((s_28.2.1).toNat) + (((s_28.1.length:Int)).toNat - (s_28.2.1).toNat))))) 0 rfl (Dk (Cn (xM hr_49))) (fU (v':=(vV (aH 0) 1 (s_28.1.take ((s_28.2.1).toNat)++List.replicate (((s_28.1.length:Int)).toNat - (s_28.2.1).toNat) 0++s_28.1.drop (((s_28.2.1).toNat) + (((s_28.1.length:Int)).toNat - (s_28.2.1).toNat))))) 54 rfl (Dk (Cn (xM hr_49))) (aj (af (aa (ae (vV (aH 0) 1 (s_28.1.take ((s_28.2.1).toNat)++List.replicate (((s_28.1.length:Int)).toNat - (s_28.2.1).toNat) 0++s_28.1.drop (((s_28.2.1).toNat) + (((s_28.1.length:Int)).toNat - (s_28.2.1).toNat)))) wz rfl (ae (vI s_28.2.1) wz rfl ?_))))))))
       obtain ⟨_,hr_50,hc_9⟩:=bind_some hc_9
       refine Lb vZ sz3 rfl rfl hr_50 wz (ae (.vs (aH 0) 1 0 ((s_28.2.1).toNat)) wz rfl (aj (Dr 0 rfl (CZ 0 0 rfl rfl (Kh 2 0 rfl rfl (xM hr_50) (CZ 54 0 rfl rfl (CZ 57 0 rfl rfl (Kh 59 0 rfl rfl (xM hr_50) (Dn (i:=0) rfl ?_)))))))))
       obtain rfl:=ah hc_9
       obtain rfl:=ah hL_10
       obtain rfl:=ah hF
       exact aB (Av (bs:=([]:List Box)) (os:=([]:List Box)) (xs:=s_1) (o:=none) (.inr rfl) [(vL eI (cutL (s_28.1.take ((s_28.2.1).toNat)++List.replicate (((s_28.1.length:Int)).toNat - (s_28.2.1).toNat) 0++s_28.1.drop (((s_28.2.1).toNat) + (((s_28.1.length:Int)).toNat - (s_28.2.1).toNat))) 0 ((s_28.2.1).toNat)))] ⟨rfl,trivial⟩ rfl rfl rfl rfl rfl (by kernel_rfl) zR rfl)
     ·refine ax rfl hc_20 (au (aa (ae (vI s_8) wz rfl (ae (vI (w64 (s_8 + 1))) wz rfl (ae (vI (w64 (s_8 + 1))) wz rfl (aj ?_))))))
      obtain rfl:=ah hc_9
      exact aU (k_3,(w64 (s_8 + 1))) hL_10 (Nat.lt_succ_self _) rfl (aI rfl)
    ·refine ax rfl hc_13 (aS ?_)
     obtain rfl:=ah hc_9
     obtain rfl:=ah hL_10
     exact aO (s_8) rfl rfl (aI rfl)
  ·rintro s_8 ho_ sl_ H_ hp_ hq_
   subst ho_
   refine aK _ hp_ hq_ (af (aa (ae (dV (aH 0) 1 s_1) wz rfl (ae (dV (aH 0) 1 s_1) wz rfl (aj (gM 0 rfl (wS 0 0 rfl rfl (wS 2 0 rfl rfl (wS 60 0 rfl rfl (Dn (i:=0) rfl ?_))))))))))
   obtain rfl:=ah hF
   exact aB (Av (bs:=([]:List Box)) (os:=([]:List Box)) (xs:=s_1) (o:=none) (.inr rfl) [(vL eI s_1)] ⟨rfl,trivial⟩ rfl rfl rfl rfl rfl (by kernel_rfl) zR rfl)
theorem yF {a_1:Run} {b_2:Run} {r:Int} (hF:qY a_1 b_2=some r) :
  FnM Tryz.prog 195 [(.d (.agg (Run.enc a_1))),(.d (.agg (Run.enc b_2)))] [] (vI r) []:=by
 refine FnM.of_wH ⟨Tryz.prog,10,[],[]⟩ rfl Tryz.func195 rfl rfl (Nat.le_of_ble_eq_true rfl) (by kernel_rfl) ?_
 unfold qY at hF
 refine af (aa (fB 0 (.inl rfl) [(vI a_1.f_from),(vI a_1.f_to)] rfl rfl wz (fun n_3=>fB 0 (.inl rfl) [(vI b_2.f_from),(vI b_2.f_to)] rfl rfl wz (fun n_4=>ae (vI 0) wz rfl (aj (af (aa (aG kE rfl 0 rfl wz (aC 0 0 il ft sz3 ag3 rfl rfl (vI a_1.f_from) rfl wz (aG kE rfl 0 rfl wz (aC 0 1 il ft sz3 ag3 rfl rfl (vI b_2.f_from) rfl wz (ae (vI (w64 (a_1.f_from - b_2.f_from))) wz rfl (ae (vI (w64 (a_1.f_from - b_2.f_from))) wz rfl (aj ?_))))))))))))))
 obtain rfl:=ah hF
 exact aB (aP (.inr rfl) [(vI (w64 (a_1.f_from - b_2.f_from)))] ⟨rfl,trivial⟩ rfl rfl rfl)
theorem jE {data_1:(List Run)} {a_2:Int} {b_3:Int} {r:(List Run)} (hF:bI data_1 a_2 b_3=some r) :
  FnM Tryz.prog 304 [(dV (aH 0) 2 data_1),(vI a_2),(vI b_3),(.fn 195 [])] (([]:List Box)++gI 2 Run.enc data_1) (.tup []) (([]:List Box).map some++gT data_1 (gB 2 Run.enc r)):=by
 refine FnM.of_wHv ⟨Tryz.prog,53,[],[]⟩ rfl Tryz.func304 rfl rfl (Nat.le_of_ble_eq_true rfl) (by kernel_rfl) ?_
 unfold bI at hF
 refine af (aa (ae (vI a_2) wz rfl (ae (vI (w64 (a_2 + 1))) wz rfl (ae (vI (w64 (a_2 + 1))) wz rfl (aj ?_)))))
 obtain ⟨o_13,hj_14,hF⟩:=bind_some hF
 obtain ⟨nq_51,hj_14⟩:=dB hj_14
 refine aD (β:=((List Run)×Int)) (fun (s_10:(List Run)×Int)=>([]:List (Nat×V))) (fun (s_10:(List Run)×Int)=>([((aH 0),gB 2 Run.enc s_10.1)]:Hp)) (fun p=>o_13 = .go p) ?_ ?_
 ·refine aA (aV (β:=Nat×((List Run)×Int)) (fun p=>(fun (k_5:Nat) (s_10:(List Run)×Int)=>([(0,(dV (aH 0) 2 s_10.1)),(1,(vI a_2)),(2,(vI b_3)),(3,(.fn 195 [])),(8,(vI s_10.2))]:List (Nat×V))) p.1 p.2) (fun p=>(fun (k_5:Nat) (s_10:(List Run)×Int)=>([((aH 0),gB 2 Run.enc s_10.1)]:Hp)) p.1 p.2) (fun p=>iterN (fun s=>bD b_3 a_2 s) p.1 p.2=some o_13) (fun p=>p.1) (nq_51,(data_1,(w64 (a_2 + 1)))) hj_14 rfl (aI rfl) ?_)
  rintro ⟨k_5,s_10⟩ hL_12
  dsimp only at hL_12
  cases k_5 with
  | zero=>cases hL_12
  | succ k_5 =>
   obtain ⟨c_,hc_11,hL_12⟩:=bind_some hL_12
   unfold bD at hc_11
   refine af (af (aa (ae (vI s_10.2) wz rfl (ae (vI b_3) wz rfl (ae (vB (decide (s_10.2 < b_3))) wz rfl (aj ?_))))))
   rcases ak hc_11 with⟨hc_15,hc_11⟩ | ⟨hc_15,hc_11⟩
   ·refine ay rfl hc_15 (au (af (aA (af (aa (ae (vI s_10.2) wz rfl (ae (vI s_10.2) wz rfl (aj ?_))))))))
    obtain ⟨o_24,hj_25,hc_11⟩:=bind_some hc_11
    obtain ⟨nq_50,hj_25⟩:=dB hj_25
    refine aD (β:=((List Run)×Int)) (fun (s_21:(List Run)×Int)=>([(0,(dV (aH 0) 2 s_21.1)),(1,(vI a_2)),(2,(vI b_3)),(3,(.fn 195 [])),(8,(vI s_10.2))]:List (Nat×V))) (fun (s_21:(List Run)×Int)=>([((aH 0),gB 2 Run.enc s_21.1)]:Hp)) (fun p=>o_24 = .go p) ?_ ?_
    ·refine aA (aV (β:=Nat×((List Run)×Int)) (fun p=>(fun (k_16:Nat) (s_21:(List Run)×Int)=>([(0,(dV (aH 0) 2 s_21.1)),(1,(vI a_2)),(2,(vI b_3)),(3,(.fn 195 [])),(8,(vI s_10.2)),(9,(vI s_21.2))]:List (Nat×V))) p.1 p.2) (fun p=>(fun (k_16:Nat) (s_21:(List Run)×Int)=>([((aH 0),gB 2 Run.enc s_21.1)]:Hp)) p.1 p.2) (fun p=>iterN (fun s=>bU a_2 s) p.1 p.2=some o_24) (fun p=>p.1) (nq_50,(s_10.1,s_10.2)) hj_25 rfl (aI rfl) ?_)
     rintro ⟨k_16,s_21⟩ hL_23
     dsimp only at hL_23
     cases k_16 with
     | zero=>cases hL_23
     | succ k_16 =>
      obtain ⟨c_,hc_22,hL_23⟩:=bind_some hL_23
      unfold bU at hc_22
      refine af (af ?_)
      obtain ⟨v_26,h_27,hc_22⟩:=bind_some hc_22
      refine aD (β:=Unit) (fun _=>([(0,(dV (aH 0) 2 s_21.1)),(1,(vI a_2)),(2,(vI b_3)),(3,(.fn 195 [])),(8,(vI s_10.2)),(9,(vI s_21.2)),(34,(vB v_26))]:List (Nat×V))) (fun _=>([((aH 0),gB 2 Run.enc s_21.1)]:Hp)) (fun _=>True) ?_ ?_
      ·refine bA (ae (vI s_21.2) wz rfl (ae (vI a_2) wz rfl (ae (vB (decide (s_21.2 > a_2))) wz rfl ?_)))
       rcases ak h_27 with⟨hc_28,h_27⟩ | ⟨hc_28,h_27⟩
       ·refine av rfl hc_28 wz (ae (.fn 195 []) wa rfl (ae (dV (aH 0) 2 s_21.1) wa rfl (ae (vI s_21.2) wa rfl ?_)))
        obtain ⟨_,hi_29,h_27⟩:=bind_some h_27
        refine ng kP rfl rfl (lN hi_29) (iV hi_29) wa ?_
        obtain ⟨e_30,hy_31,h_27⟩:=bind_some h_27
        refine nz 8 0 (.inr (by kernel_rfl)) (fun _ _ ag=>trivial) mG vv rfl rfl hy_31 (.d (.agg (Run.enc e_30))) rfl wa (ae (dV (aH 0) 2 s_21.1) wa rfl (ae (vI s_21.2) wa rfl (ae (vI (w64 (s_21.2 - 1))) wa rfl ?_)))
        obtain ⟨_,hi_32,h_27⟩:=bind_some h_27
        refine ng kP rfl rfl (lN hi_32) (iV hi_32) wa ?_
        obtain ⟨e_33,hy_34,h_27⟩:=bind_some h_27
        refine nz 13 0 (.inr (by kernel_rfl)) (fun _ _ ag=>⟨.inl ⟨rfl,rfl⟩,trivial⟩) mG vv rfl rfl hy_34 (.d (.agg (Run.enc e_33))) rfl wa ?_
        obtain ⟨r_35,hr_36,h_27⟩:=bind_some h_27
        refine aF (yF hr_36) rfl hb195 rfl rfl rfl rfl wa (ae (vB (decide (r_35 < 0))) wa rfl (ae (vB (decide (r_35 < 0))) wz rfl (aj ?_)))
        obtain rfl:=ah h_27
        exact cu
       ·refine av rfl hc_28 wz (ai wa (ai wa (ai wa (ai wa (ai wa (ai wa (ai wa (ai wa (ai wa (ai wa (ai wa (ai wa (ae (vB false) wz rfl (aj ?_))))))))))))))
        obtain rfl:=ah h_27
        exact cu
      ·rintro ⟨⟩ _ sl_ H_ hp_ hq_
       refine aK _ hp_ hq_ ?_
       rcases ak hc_22 with⟨hc_37,hc_22⟩ | ⟨hc_37,hc_22⟩
       ·refine ay rfl hc_37 (au (af (aA (bA (ae (dV (aH 0) 2 s_21.1) wz rfl (ae (vI s_21.2) wz rfl (ae (dV (aH 0) 2 s_21.1) wz rfl (ae (vI s_21.2) wz rfl (ae (vI (w64 (s_21.2 - 1))) wz rfl (ae (dV (aH 0) 2 s_21.1) wz rfl (ae (vI s_21.2) wz rfl (ae (vI (w64 (s_21.2 - 1))) wz rfl ?_))))))))))))
        obtain ⟨_,hi_38,hc_22⟩:=bind_some hc_22
        refine ng kP rfl rfl (lN hi_38) (iV hi_38) wz ?_
        obtain ⟨e_39,hy_40,hc_22⟩:=bind_some hc_22
        refine nz 9 0 (.inr (by kernel_rfl)) (fun _ _ ag=>trivial) mG vv rfl rfl hy_40 (.d (.agg (Run.enc e_39))) rfl wz (ae (dV (aH 0) 2 s_21.1) wz rfl (ae (vI s_21.2) wz rfl ?_))
        obtain ⟨_,hi_41,hc_22⟩:=bind_some hc_22
        refine ng kP rfl rfl (lN hi_41) (iV hi_41) wz ?_
        obtain ⟨e_42,hy_43,hc_22⟩:=bind_some hc_22
        refine nz 13 0 (.inr (by kernel_rfl)) (fun _ _ ag=>⟨.inl ⟨rfl,rfl⟩,trivial⟩) mG vv rfl rfl hy_43 (.d (.agg (Run.enc e_42))) rfl wz ?_
        obtain ⟨_,hi_44,hc_22⟩:=bind_some hc_22
        refine ng kP rfl rfl (lN hi_44) (iV hi_44) wz ?_
        obtain ⟨e_45,hy_46,hc_22⟩:=bind_some hc_22
        refine w9 15 (.inr (by kernel_rfl)) (fun _ _ ag=>⟨.inr (.inr (by kernel_rfl)),⟨.inr (.inr (by kernel_rfl)),trivial⟩⟩) 0 mG rfl rfl hy_46 e_39 rfl wz (fU (v':=(dV (aH 0) 2 (s_21.1.set (0 + (s_21.2).toNat) e_39))) 0 rfl (fG (by simp)) (fU (v':=(dV (aH 0) 2 (s_21.1.set (0 + (s_21.2).toNat) e_39))) 37 rfl (fG (by simp)) (fU (v':=(dV (aH 0) 2 (s_21.1.set (0 + (s_21.2).toNat) e_39))) 39 rfl (fG (by simp)) (fU (v':=(dV (aH 0) 2 (s_21.1.set (0 + (s_21.2).toNat) e_39))) 42 rfl (fG (by simp)) (fU (v':=(dV (aH 0) 2 (s_21.1.set (0 + (s_21.2).toNat) e_39))) 47 rfl (fG (by simp)) ?_)))))
        obtain ⟨_,hi_47,hc_22⟩:=bind_some hc_22
        refine ng kP rfl rfl (lN hi_47) (iV hi_47) wz ?_
        obtain ⟨e_48,hy_49,hc_22⟩:=bind_some hc_22
        refine w9 17 (.inr (by kernel_rfl)) (fun _ _ ag=>⟨.inr (.inr (by kernel_rfl)),⟨.inr (.inr (by kernel_rfl)),⟨.inr (.inr (by kernel_rfl)),trivial⟩⟩⟩) 0 mG rfl rfl hy_49 e_42 rfl wz (fU (v':=(dV (aH 0) 2 ((s_21.1.set (0 + (s_21.2).toNat) e_39).set (0 + ((w64 (s_21.2 - 1))).toNat) e_42))) 0 rfl (fG (by simp)) (fU (v':=(dV (aH 0) 2 ((s_21.1.set (0 + (s_21.2).toNat) e_39).set (0 + ((w64 (s_21.2 - 1))).toNat) e_42))) 37 rfl (fG (by simp)) (fU (v':=(dV (aH 0) 2 ((s_21.1.set (0 + (s_21.2).toNat) e_39).set (0 + ((w64 (s_21.2 - 1))).toNat) e_42))) 39 rfl (fG (by simp)) (fU (v':=(dV (aH 0) 2 ((s_21.1.set (0 + (s_21.2).toNat) e_39).set (0 + ((w64 (s_21.2 - 1))).toNat) e_42))) 42 rfl (fG (by simp)) (fU (v':=(dV (aH 0) 2 ((s_21.1.set (0 + (s_21.2).toNat) e_39).set (0 + ((w64 (s_21.2 - 1))).toNat) e_42))) 47 rfl (fG (by simp)) (aj (aa (ae (vI s_21.2) wz rfl (ae (vI (w64 (s_21.2 - 1))) wz rfl (ae (vI (w64 (s_21.2 - 1))) wz rfl (aj ?_)))))))))))
        obtain rfl:=ah hc_22
        exact aU (k_16,(((s_21.1.set (0 + (s_21.2).toNat) e_39).set (0 + ((w64 (s_21.2 - 1))).toNat) e_42),(w64 (s_21.2 - 1)))) hL_23 (Nat.lt_succ_self _) rfl (aI rfl)
       ·refine ax rfl hc_37 (aS ?_)
        obtain rfl:=ah hc_22
        obtain rfl:=ah hL_23
        exact aO ((s_21.1,s_21.2)) rfl rfl (aI rfl)
    ·rintro s_21 ho_ sl_ H_ hp_ hq_
     subst ho_
     refine aK _ hp_ hq_ (aa (ae (vI s_10.2) wz rfl (ae (vI (w64 (s_10.2 + 1))) wz rfl (ae (vI (w64 (s_10.2 + 1))) wz rfl (aj ?_)))))
     obtain rfl:=ah hc_11
     exact aU (k_5,(s_21.1,(w64 (s_10.2 + 1)))) hL_12 (Nat.lt_succ_self _) rfl (aI rfl)
   ·refine ax rfl hc_15 (aS ?_)
    obtain rfl:=ah hc_11
    obtain rfl:=ah hL_12
    exact aO ((s_10.1,s_10.2)) rfl rfl (aI rfl)
 ·rintro s_10 ho_ sl_ H_ hp_ hq_
  subst ho_
  show uC _ _ _ _ _ _ _ _
  obtain rfl:=ah hF
  exact zU (H0:=([((aH 0),gB 2 Run.enc s_10.1)]:Hp)) (sl':=envS []) hq_ (Av (bs:=([]:List Box)) (os:=([]:List Box)) (xs:=data_1) (o:=gB 2 Run.enc s_10.1) (.inl rfl) [] trivial rfl rfl rfl rfl rfl (by kernel_rfl) pu rfl)
theorem kM {data_1:(List Run)} {a_2:Int} {b_3:Int} {limit_4:Int} {r:(List Run)} (hF:cB data_1 a_2 b_3 limit_4=some r) :
  FnM Tryz.prog 263 [(dV (aH 0) 2 data_1),(vI a_2),(vI b_3),(vI limit_4),(.fn 195 [])] (([]:List Box)++gI 2 Run.enc data_1) (.tup []) (([]:List Box).map some++gT data_1 (gB 2 Run.enc r)):=by
 refine FnM.of_wHv ⟨Tryz.prog,148,[],[]⟩ rfl Tryz.func263 rfl rfl (Nat.le_of_ble_eq_true rfl) (by kernel_rfl) ?_
 unfold cB at hF
 refine af (aa (ae (vB true) wz rfl (aj (af (aa (ae (vB true) wz rfl (aj ?_)))))))
 obtain ⟨o_14,hj_15,hF⟩:=bind_some hF
 obtain ⟨nq_21,hj_15⟩:=dB hj_15
 refine aD (β:=(Unit)) (fun (s_11:Unit)=>([]:List (Nat×V))) (fun (s_11:Unit)=>([((aH 0),gB 2 Run.enc data_1)]:Hp)) (fun p=>o_14 = .go p) ?_ ?_
 ·refine aA (aV (β:=Nat×(Unit)) (fun p=>(fun (k_6:Nat) (s_11:Unit)=>([(0,(dV (aH 0) 2 data_1)),(1,(vI a_2)),(2,(vI b_3)),(3,(vI limit_4)),(4,(.fn 195 [])),(10,(vB true)),(11,(vB true))]:List (Nat×V))) p.1 p.2) (fun p=>(fun (k_6:Nat) (s_11:Unit)=>([((aH 0),gB 2 Run.enc data_1)]:Hp)) p.1 p.2) (fun p=>iterN (fun s=>bR b_3 a_2 data_1 limit_4 s) p.1 p.2=some o_14) (fun p=>p.1) (nq_21,()) hj_15 rfl (aI rfl) ?_)
  rintro ⟨k_6,s_11⟩ hL_13
  dsimp only at hL_13
  cases k_6 with
  | zero=>cases hL_13
  | succ k_6 =>
   obtain ⟨c_,hc_12,hL_13⟩:=bind_some hL_13
   unfold bR at hc_12
   refine aA (af (aa (ae (vI b_3) wz rfl (ae (vI a_2) wz rfl (ae (vI (w64 (b_3 - a_2))) wz rfl (ae (vI (w64 (b_3 - a_2))) wz rfl (aj (af (af (aa (ae (vI (w64 (b_3 - a_2))) wz rfl (ae (vB (decide ((w64 (b_3 - a_2))≤12))) wz rfl (aj ?_)))))))))))))
   rcases ak hc_12 with⟨hc_16,hc_12⟩ | ⟨hc_16,hc_12⟩
   ·refine ay rfl hc_16 (af (aa (ae (dV (aH 0) 2 data_1) wz rfl (ae (vI a_2) wz rfl (ae (vI b_3) wz rfl (ae (.fn 195 []) wz rfl ?_))))))
    obtain ⟨r_17,hr_18,hc_12⟩:=bind_some hc_12
    obtain ⟨_,hs_19,hc_12⟩:=bind_some hc_12
    replace hs_19:=oD hs_19
    refine pQ 0 [] 0 0 il ft (jE hr_18) rfl hb304 rfl rfl rfl (by kernel_rfl) rfl (.inr (.inl rfl)) rfl (by kernel_rfl) (by kernel_rfl) (by kernel_rfl) (by kernel_rfl) rfl (by decide) (by kernel_rfl) pu (zh hs_19) wz ([((aH 0),gB 2 Run.enc r_17)]:Hp) (by kernel_rfl) (fU (v':=(dV (aH 0) 2 r_17)) 0 rfl (fG hs_19.symm) (fU (v':=(dV (aH 0) 2 r_17)) 26 rfl (fG hs_19.symm) (aj ?_)))
    obtain rfl:=ah hc_12
    obtain rfl:=ah hL_13
    obtain rfl:=ah hF
    exact aB (Av (bs:=([]:List Box)) (os:=([]:List Box)) (xs:=data_1) (o:=gB 2 Run.enc r_17) (.inr rfl) [] trivial rfl rfl rfl rfl rfl (by kernel_rfl) pu rfl)
   ·refine ax rfl hc_16 (au (af (af (aa (ae (vI limit_4) wz rfl (ae (vB (limit_4 == 0)) wz rfl (aj ?_)))))))
    rcases ak hc_12 with⟨hc_20,hc_12⟩ | ⟨hc_20,hc_12⟩
    ·refine ay rfl hc_20 (af (aa (ae (dV (aH 0) 2 data_1) wz rfl (ae (vI a_2) wz rfl (ae (vI b_3) wz rfl (ae (.fn 195 []) wz rfl ?_))))))
     cases hc_12
    ·refine ax rfl hc_20 (au (af (af (aa (ae (vB true) wz rfl (ae (vB false) wz rfl (aj (ax rfl rfl (au (af (aa (ae (dV (aH 0) 2 data_1) wz rfl (ae (vI a_2) wz rfl (ae (vI b_3) wz rfl (ae (.fn 195 []) wz rfl ?_)))))))))))))))
     cases hc_12
 ·rintro s_11 ho_ sl_ H_ hp_ hq_
  subst ho_
  show uC _ _ _ _ _ _ _ _
  obtain rfl:=ah hF
  exact zU (H0:=([((aH 0),gB 2 Run.enc data_1)]:Hp)) (sl':=envS []) hq_ (Av (bs:=([]:List Box)) (os:=([]:List Box)) (xs:=data_1) (o:=gB 2 Run.enc data_1) (.inl rfl) [] trivial rfl rfl rfl rfl rfl (by kernel_rfl) pu rfl)
theorem jH {x_1:(List Run)} {r:(List Run)} (hF:bK x_1=some r) :
  FnM Tryz.prog 194 [(dV (aH 0) 2 x_1),(.fn 195 [])] (([]:List Box)++gI 2 Run.enc x_1) (.tup []) (([]:List Box).map some++gT x_1 (gB 2 Run.enc r)):=by
 refine FnM.of_wHv ⟨Tryz.prog,14,[],[]⟩ rfl Tryz.func194 rfl rfl (Nat.le_of_ble_eq_true rfl) (by kernel_rfl) ?_
 unfold bK at hF
 refine af (aa (ae (dV (aH 0) 2 x_1) wz rfl (DC wK rfl wz (ae (vI (x_1.length:Int)) wz rfl (aj (aa (ae (dV (aH 0) 2 x_1) wz rfl (ae (vI (x_1.length:Int)) wz rfl (ae (vI (x_1.length:Int)) wz rfl (mU un3 Hf rfl wz ?_))))))))))
 obtain ⟨r_3,hr_4,hF⟩:=bind_some hF
 refine aF (rT hr_4) rfl hb167 rfl rfl rfl rfl wz (ae (.fn 195 []) wz rfl ?_)
 obtain ⟨r_5,hr_6,hF⟩:=bind_some hF
 obtain ⟨_,hs_7,hF⟩:=bind_some hF
 replace hs_7:=oD hs_7
 refine pQ 0 [] 0 0 il ft (kM hr_6) rfl hb263 rfl rfl rfl (by kernel_rfl) rfl (.inr (.inl rfl)) rfl (by kernel_rfl) (by kernel_rfl) (by kernel_rfl) (by kernel_rfl) rfl (by decide) (by kernel_rfl) pu (zh hs_7) wz ([((aH 0),gB 2 Run.enc r_5)]:Hp) (by kernel_rfl) (fU (v':=(dV (aH 0) 2 r_5)) 0 rfl (fG hs_7.symm) (fU (v':=(dV (aH 0) 2 r_5)) 5 rfl (fG hs_7.symm) (fU (v':=(dV (aH 0) 2 r_5)) 7 rfl (fG hs_7.symm) (aj ?_))))
 show uC _ _ _ _ _ _ _ _
 obtain rfl:=ah hF
 exact Av (bs:=([]:List Box)) (os:=([]:List Box)) (xs:=x_1) (o:=gB 2 Run.enc r_5) (.inl rfl) [] trivial rfl rfl rfl rfl rfl (by kernel_rfl) pu rfl
theorem uJ {l_1:(List Rect)} {y_2:Int} {r:(List Run)} (hF:mI l_1 y_2=some r) :
  FnM Tryz.prog 147 [(vL Rect.enc l_1),(vI y_2)] [] (vL Run.enc r) []:=by
 refine FnM.of_wH ⟨Tryz.prog,84,[],[]⟩ rfl Tryz.func147 rfl rfl (Nat.le_of_ble_eq_true rfl) (by kernel_rfl) ?_
 unfold mI at hF
 refine af (aa (ae .nil wz rfl (aj (af (aa (ae .nil wz rfl (aj (af (af (aa (ae (vL Rect.enc l_1) wz rfl (bO yI rfl wz (ae (vI 0) wz rfl (aj (lT (fun n_9 => ?_))))))))))))))))
 obtain ⟨o_14,hj_15,hF⟩:=bind_some hF
 obtain ⟨hn_7,hj_15⟩:=aW hj_15
 refine aD (β:=((List Run))×Nm) (fun p=>(fun (s_8:(List Run)) (n_11:Nm)=>([(5,(gV n_11 2 s_8))]:List (Nat×V))) p.1 p.2) (fun p=>(fun (s_8:(List Run)) (n_11:Nm)=>([(n_11,gB 2 Run.enc s_8)]:Hp)) p.1 p.2) (fun p=>o_14 = .go p.1) ?_ ?_
 ·refine aA (aV (β:=Nat×(List Rect)×((List Run))×Nm) (fun p=>(fun (k_3:Nat) (l_4:List Rect) (s_8:(List Run)) (n_11:Nm)=>([(1,(vI y_2)),(5,(gV n_11 2 s_8)),(12,(vL Rect.enc l_1)),(13,(vI (l_1.length:Int))),(14,(vI (k_3:Int)))]:List (Nat×V))) p.1 p.2.1 p.2.2.1 p.2.2.2) (fun p=>(fun (k_3:Nat) (l_4:List Rect) (s_8:(List Run)) (n_11:Nm)=>([(n_11,gB 2 Run.enc s_8)]:Hp)) p.1 p.2.1 p.2.2.1 p.2.2.2) (fun p=>forR (fun k x s=>mO y_2 k x s) p.2.1 p.1 p.2.2.1=some o_14∧(l_1).drop p.1=p.2.1) (fun p=>p.2.1.length) (0,l_1,([]:List Run),n_9) ⟨hj_15,rfl⟩ rfl (aI rfl) ?_)
  rintro ⟨k_3,l_4,s_8,n_11⟩ ⟨hL_13,hD_6⟩
  dsimp only at hL_13 hD_6
  cases l_4 with
  | nil =>
   obtain rfl:=ah hL_13
   refine af (aa (ae (vB (decide ((k_3:Int) < (l_1.length:Int)))) wz rfl (aj ?_)))
   refine af (ax rfl (drop_nil hD_6) (aS ?_))
   exact aO (s_8,n_11) rfl rfl (aI rfl)
  | cons x_5 l_4 =>
   obtain ⟨c_,hc_12,hL_13⟩:=bind_some hL_13
   refine af (aa (ae (vB (decide ((k_3:Int) < (l_1.length:Int)))) wz rfl (aj ?_)))
   refine af (ay rfl (aX hD_6) (au ?_))
   unfold mO at hc_12
   refine af (aA (af (aa (dI Cj rfl rfl (bC hD_6) rfl wz (bG rF DK rfl (.d (.agg (Rect.enc x_5))) rfl wz (dh 0 (.inl rfl) z45 rfl wz (fun n_16=>fD 0 il ft 1 rF rfl rfl [(vI x_5.X),(vI x_5.Y),(vI x_5.W),(vI x_5.H)] rfl wz (aj (af ?_)))))))))
   obtain ⟨v_17,h_18,hc_12⟩:=bind_some hc_12
   refine aD (β:=Unit) (fun _=>([(1,(vI y_2)),(5,(gV n_11 2 s_8)),(7,(.ref n_16 0 0)),(12,(vL Rect.enc l_1)),(13,(vI (l_1.length:Int))),(14,(vI (k_3:Int))),(30,(vB v_17))]:List (Nat×V))) (fun _=>([(n_11,gB 2 Run.enc s_8),(n_16,some (.cells 4 [(vI x_5.X),(vI x_5.Y),(vI x_5.W),(vI x_5.H)]))]:Hp)) (fun _=>True) ?_ ?_
   ·refine aa (aG uI rfl 1 rfl wz (aC 0 1 il ft sz3 ag3 rfl rfl (vI x_5.Y) rfl wz (ae (vI y_2) wz rfl (ae (vB (decide (x_5.Y≤y_2))) wz rfl ?_))))
    rcases ak h_18 with⟨hc_19,h_18⟩ | ⟨hc_19,h_18⟩
    ·refine av rfl hc_19 wz (ae (vI y_2) wa rfl (aG uI rfl 1 rfl wa (aC 0 1 il ft sz3 ag3 rfl rfl (vI x_5.Y) rfl wa (aG Ar rfl 3 rfl wa (aC 0 1 il ft sz3 ag3 rfl rfl (vI x_5.H) rfl wa (ae (vI (w64 (x_5.Y + x_5.H))) wa rfl (ae (vB (decide (y_2 < (w64 (x_5.Y + x_5.H))))) wa rfl (ae (vB (decide (y_2 < (w64 (x_5.Y + x_5.H))))) wz rfl (aj ?_)))))))))
     obtain rfl:=ah h_18
     exact cu
    ·refine av rfl hc_19 wz (ai wa (ai wa (ai wa (ai wa (ai wa (ai wa (ai wa (ae (vB false) wz rfl (aj ?_)))))))))
     obtain rfl:=ah h_18
     exact cu
   ·rintro ⟨⟩ _ sl_ H_ hp_ hq_
    refine aK _ hp_ hq_ ?_
    obtain ⟨v_20,h_21,hc_12⟩:=bind_some hc_12
    refine aD (β:=Nm) (fun (n_22:Nm)=>([(1,(vI y_2)),(5,(gV n_22 2 v_20)),(12,(vL Rect.enc l_1)),(13,(vI (l_1.length:Int))),(14,(vI (k_3:Int)))]:List (Nat×V))) (fun (n_22:Nm)=>([(n_22,gB 2 Run.enc v_20),(n_16,some (.cells 4 [(vI x_5.X),(vI x_5.Y),(vI x_5.W),(vI x_5.H)]))]:Hp)) (fun _=>True) ?_ ?_
    ·rcases ak h_21 with⟨hc_23,h_21⟩ | ⟨hc_23,h_21⟩
     ·refine ay rfl hc_23 (aa (ae (gV n_11 2 s_8) wz rfl (aG yY rfl 0 rfl wz (aC 0 1 il ft sz3 ag3 rfl rfl (vI x_5.X) rfl wz (aG yY rfl 0 rfl wz (aC 0 1 il ft sz3 ag3 rfl rfl (vI x_5.X) rfl wz (aG Ej rfl 2 rfl wz (aC 0 1 il ft sz3 ag3 rfl rfl (vI x_5.W) rfl wz (ae (vI (w64 (x_5.X + x_5.W))) wz rfl (ae (.d (.agg (Run.enc (⟨x_5.X,(w64 (x_5.X + x_5.W))⟩:Run)))) wz (by kernel_rfl) (eQ (([(⟨x_5.X,(w64 (x_5.X + x_5.W))⟩:Run)]:List Run).map Run.enc) kP Iu rfl rfl rfl rfl rfl wz ?_)))))))))))
      obtain ⟨a_24,hz_25,h_21⟩:=bind_some h_21
      refine jT 0 il ft (i:=0) zf zf mG GZ rfl (by decide) Hz (by decide) (fun _=>rfl) rfl rfl rfl hz_25 wz (fun n_26=>ae (gV n_26 2 a_24) wz rfl (aj ?_))
      obtain rfl:=ah h_21
      exact aO n_26 trivial rfl (aI rfl)
     ·refine ax rfl hc_23 (au ?_)
      obtain rfl:=ah h_21
      exact aO n_11 trivial rfl (aI rfl)
    ·rintro n_22 _ sl_ H_ hp_ hq_
     refine aK _ hp_ hq_ (aa (dY (bn hD_6 hn_7) wz rfl (ae (vI ((k_3 + 1:Nat):Int)) wz rfl (aj ?_))))
     obtain rfl:=ah hc_12
     exact aU (k_3 + 1,l_4,v_20,n_22) ⟨hL_13,aR hD_6⟩ (Nat.lt_succ_self _) rfl (aI rfl)
 ·rintro ⟨s_8,n_11⟩ ho_ sl_ H_ hp_ hq_
  subst ho_
  refine aK _ hp_ hq_ (af (aa (ae (gV n_11 2 s_8) wz rfl ?_)))
  obtain ⟨r_27,hr_28,hF⟩:=bind_some hF
  obtain ⟨_,hs_29,hF⟩:=bind_some hF
  replace hs_29:=oD hs_29
  refine pQ 0 [] 0 0 il ft (jH hr_28) rfl hb194 rfl rfl rfl (by kernel_rfl) rfl (.inl rfl) rfl (by kernel_rfl) (by kernel_rfl) (by kernel_rfl) (by kernel_rfl) rfl (by decide) (by kernel_rfl) pu (zh hs_29) wz ([(n_11,gB 2 Run.enc r_27)]:Hp) (by kernel_rfl) (fU (v':=(gV n_11 2 r_27)) 43 rfl (lc hs_29.symm) (fU (v':=(gV n_11 2 r_27)) 5 rfl (lc hs_29.symm) (aj (af (aa (ae .nil wz rfl (aj (af (af (aa (ae (gV n_11 2 r_27) wz rfl (Df wK rfl wz (ae (vI 0) wz rfl (aj (gM 0 rfl (dQ 5 0 rfl rfl (dQ 43 0 rfl rfl (dQ 45 0 rfl rfl (lT (fun n_36 => ?_))))))))))))))))))))
  obtain ⟨o_41,hj_42,hF⟩:=bind_some hF
  obtain ⟨hn_34,hj_42⟩:=aW hj_42
  refine aD (β:=((List Run))×Nm) (fun p=>(fun (s_35:(List Run)) (n_38:Nm)=>([(8,(gV n_38 2 s_35))]:List (Nat×V))) p.1 p.2) (fun p=>(fun (s_35:(List Run)) (n_38:Nm)=>([(n_11,gF 2 Run.enc r_27),(n_38,gB 2 Run.enc s_35)]:Hp)) p.1 p.2) (fun p=>o_41 = .go p.1) ?_ ?_
  ·refine aA (aV (β:=Nat×(List Run)×((List Run))×Nm) (fun p=>(fun (k_30:Nat) (l_31:List Run) (s_35:(List Run)) (n_38:Nm)=>([(8,(gV n_38 2 s_35)),(45,(vL Run.enc r_27)),(46,(vI (r_27.length:Int))),(47,(vI (k_30:Int)))]:List (Nat×V))) p.1 p.2.1 p.2.2.1 p.2.2.2) (fun p=>(fun (k_30:Nat) (l_31:List Run) (s_35:(List Run)) (n_38:Nm)=>([(n_11,gF 2 Run.enc r_27),(n_38,gB 2 Run.enc s_35)]:Hp)) p.1 p.2.1 p.2.2.1 p.2.2.2) (fun p=>forR (fun k x s=>mX k x s) p.2.1 p.1 p.2.2.1=some o_41∧(r_27).drop p.1=p.2.1) (fun p=>p.2.1.length) (0,r_27,([]:List Run),n_36) ⟨hj_42,rfl⟩ rfl (aI rfl) ?_)
   rintro ⟨k_30,l_31,s_35,n_38⟩ ⟨hL_40,hD_33⟩
   dsimp only at hL_40 hD_33
   cases l_31 with
   | nil =>
    obtain rfl:=ah hL_40
    refine af (aa (ae (vB (decide ((k_30:Int) < (r_27.length:Int)))) wz rfl (aj ?_)))
    refine af (ax rfl (drop_nil hD_33) (aS ?_))
    exact aO (s_35,n_38) rfl rfl (aI rfl)
   | cons x_32 l_31 =>
    obtain ⟨c_,hc_39,hL_40⟩:=bind_some hL_40
    refine af (aa (ae (vB (decide ((k_30:Int) < (r_27.length:Int)))) wz rfl (aj ?_)))
    refine af (ay rfl (aX hD_33) (au ?_))
    unfold mX at hc_39
    refine af (aA (af (aa (dI kP rfl rfl (bC hD_33) rfl wz (bG mG vv rfl (.d (.agg (Run.enc x_32))) rfl wz (dh 0 (.inl rfl) GZ rfl wz (fun n_43=>fD 0 il ft 2 mG rfl rfl [(vI x_32.f_from),(vI x_32.f_to)] rfl wz (aj (af (aa (ae (gV n_38 2 s_35) wz rfl (Df wK rfl wz (ae (vI (w64 ((s_35.length:Int) - 1))) wz rfl (ae (vI (w64 ((s_35.length:Int) - 1))) wz rfl (aj (af ?_))))))))))))))))
    obtain ⟨v_44,h_45,hc_39⟩:=bind_some hc_39
    refine aD (β:=Unit) (fun _=>([(8,(gV n_38 2 s_35)),(10,(.ref n_43 0 0)),(11,(vI (w64 ((s_35.length:Int) - 1)))),(45,(vL Run.enc r_27)),(46,(vI (r_27.length:Int))),(47,(vI (k_30:Int))),(65,(vB v_44))]:List (Nat×V))) (fun _=>([(n_11,gF 2 Run.enc r_27),(n_38,gB 2 Run.enc s_35),(n_43,some (.cells 2 [(vI x_32.f_from),(vI x_32.f_to)]))]:Hp)) (fun _=>True) ?_ ?_
    ·refine bA (ae (vI (w64 ((s_35.length:Int) - 1))) wz rfl (ae (vB (decide ((w64 ((s_35.length:Int) - 1))≥0))) wz rfl ?_))
     rcases ak h_45 with⟨hc_46,h_45⟩ | ⟨hc_46,h_45⟩
     ·refine av rfl hc_46 wz (aG kE rfl 0 rfl wa (aC 4 2 (.inr (by kernel_rfl)) (fun _ _ ag=>trivial) sz3 ag3 rfl rfl (vI x_32.f_from) rfl wa (ae (gV n_38 2 s_35) wa rfl (ae (vI (w64 ((s_35.length:Int) - 1))) wa rfl ?_))))
      obtain ⟨_,hi_47,h_45⟩:=bind_some h_45
      refine xg kP rfl rfl (lN hi_47) (iV hi_47) wa (aG pU rfl 1 rfl wa ?_)
      obtain ⟨e_48,hy_49,h_45⟩:=bind_some h_45
      refine nz 9 1 (.inr (by kernel_rfl)) (fun _ _ ag=>⟨.inl ⟨rfl,rfl⟩,trivial⟩) sz3 ag3 rfl rfl hy_49 (vI e_48.f_to) rfl wa (ae (vB (decide (x_32.f_from≤e_48.f_to))) wa rfl (ae (vB (decide (x_32.f_from≤e_48.f_to))) wz rfl (aj ?_)))
      obtain rfl:=ah h_45
      exact cu
     ·refine av rfl hc_46 wz (ai wa (ai wa (ai wa (ai wa (ai wa (ai wa (ai wa (ai wa (ae (vB false) wz rfl (aj ?_))))))))))
      obtain rfl:=ah h_45
      exact cu
    ·rintro ⟨⟩ _ sl_ H_ hp_ hq_
     refine aK _ hp_ hq_ ?_
     obtain ⟨v_50,h_51,hc_39⟩:=bind_some hc_39
     refine aD (β:=Nm) (fun (n_52:Nm)=>([(8,(gV n_52 2 v_50)),(45,(vL Run.enc r_27)),(46,(vI (r_27.length:Int))),(47,(vI (k_30:Int)))]:List (Nat×V))) (fun (n_52:Nm)=>([(n_11,gF 2 Run.enc r_27),(n_52,gB 2 Run.enc v_50),(n_43,some (.cells 2 [(vI x_32.f_from),(vI x_32.f_to)]))]:Hp)) (fun _=>True) ?_ ?_
     ·rcases ak h_51 with⟨hc_53,h_51⟩ | ⟨hc_53,h_51⟩
      ·refine ay rfl hc_53 (bA (ae (gV n_38 2 s_35) wz rfl (ae (vI (w64 ((s_35.length:Int) - 1))) wz rfl (ae (gV n_38 2 s_35) wz rfl (ae (vI (w64 ((s_35.length:Int) - 1))) wz rfl ?_)))))
       obtain ⟨_,hi_54,h_51⟩:=bind_some h_51
       refine xg kP rfl rfl (lN hi_54) (iV hi_54) wz (aG pU rfl 1 rfl wz ?_)
       obtain ⟨e_55,hy_56,h_51⟩:=bind_some h_51
       refine nz 6 1 (.inr (by kernel_rfl)) (fun _ _ ag=>trivial) sz3 ag3 rfl rfl hy_56 (vI e_55.f_to) rfl wz (aG pU rfl 1 rfl wz (aC 8 2 (.inr (by kernel_rfl)) (fun _ _ ag=>⟨.inl ⟨rfl,rfl⟩,trivial⟩) sz3 ag3 rfl rfl (vI x_32.f_to) rfl wz (qi (vI (sI e_55.f_to x_32.f_to)) rfl (.inr rfl) wz ?_)))
       obtain ⟨_,hi_57,h_51⟩:=bind_some h_51
       refine xg kP rfl rfl (lN hi_57) (iV hi_57) wz (aG pU rfl 1 rfl wz ?_)
       obtain ⟨e_58,hy_59,h_51⟩:=bind_some h_51
       refine w9 12 (.inr (by kernel_rfl)) (fun _ _ ag=>⟨.inr (.inr (by kernel_rfl)),⟨.inr (.inr (by kernel_rfl)),trivial⟩⟩) 1 sz3 rfl rfl hy_59 (⟨e_58.f_from,(sI e_55.f_to x_32.f_to)⟩:Run) rfl wz (fU (v':=(gV n_38 2 (s_35.set (0 + ((w64 ((s_35.length:Int) - 1))).toNat) (⟨e_58.f_from,(sI e_55.f_to x_32.f_to)⟩:Run)))) 8 rfl (lc (by simp)) (fU (v':=(gV n_38 2 (s_35.set (0 + ((w64 ((s_35.length:Int) - 1))).toNat) (⟨e_58.f_from,(sI e_55.f_to x_32.f_to)⟩:Run)))) 66 rfl (lc (by simp)) (fU (v':=(gV n_38 2 (s_35.set (0 + ((w64 ((s_35.length:Int) - 1))).toNat) (⟨e_58.f_from,(sI e_55.f_to x_32.f_to)⟩:Run)))) 68 rfl (lc (by simp)) (aj ?_))))
       obtain rfl:=ah h_51
       exact aO n_38 trivial rfl (aI rfl)
      ·refine ax rfl hc_53 (aa (ae (gV n_38 2 s_35) wz rfl (aC 0 2 il ft mG vv rfl rfl (.d (.agg (Run.enc x_32))) rfl wz (eQ (([x_32]:List Run).map Run.enc) kP Iu rfl rfl rfl rfl rfl wz ?_))))
       obtain ⟨a_60,hz_61,h_51⟩:=bind_some h_51
       refine jT 0 il ft (i:=1) zf zf mG GZ rfl (by decide) Hz (by decide) (fun _=>rfl) rfl rfl rfl hz_61 wz (fun n_62=>ae (gV n_62 2 a_60) wz rfl (aj ?_))
       obtain rfl:=ah h_51
       exact aO n_62 trivial rfl (aI rfl)
     ·rintro n_52 _ sl_ H_ hp_ hq_
      refine aK _ hp_ hq_ (aa (dY (bn hD_33 hn_34) wz rfl (ae (vI ((k_30 + 1:Nat):Int)) wz rfl (aj ?_))))
      obtain rfl:=ah hc_39
      exact aU (k_30 + 1,l_31,v_50,n_52) ⟨hL_40,aR hD_33⟩ (Nat.lt_succ_self _) rfl (aI rfl)
  ·rintro ⟨s_35,n_38⟩ ho_ sl_ H_ hp_ hq_
   subst ho_
   refine aK _ hp_ hq_ (af (aa (ae (gV n_38 2 s_35) wz rfl (ae (gV n_38 2 s_35) wz rfl (aj (gM 1 rfl (dQ 4 1 rfl rfl (dQ 8 1 rfl rfl (dQ 83 1 rfl rfl ?_)))))))))
   obtain rfl:=ah hF
   exact aB (aP (.inr rfl) [(vL Run.enc s_35)] ⟨rfl,trivial⟩ rfl rfl rfl)
theorem AZ {l_1:(List Run)} {m_2:(List Run)} {r:(List Run)} (hF:oG l_1 m_2=some r) :
  FnM Tryz.prog 146 [(vL Run.enc l_1),(vL Run.enc m_2)] [] (vL Run.enc r) []:=by
 refine FnM.of_wH ⟨Tryz.prog,88,[],[]⟩ rfl Tryz.func146 rfl rfl (Nat.le_of_ble_eq_true rfl) (by kernel_rfl) ?_
 unfold oG at hF
 refine af (aa (ae .nil wz rfl (aj (af (aa (ae .nil wz rfl (aj (af (aa (ae (vI 0) wz rfl (aj (af (af (aa (ae (vL Run.enc l_1) wz rfl (bO wK rfl wz (ae (vI 0) wz rfl (aj (lT (fun n_9 => ?_))))))))))))))))))))
 obtain ⟨o_14,hj_15,hF⟩:=bind_some hF
 obtain ⟨hn_7,hj_15⟩:=aW hj_15
 refine aD (β:=((List Run)×Int)×Nm) (fun p=>(fun (s_8:(List Run)×Int) (n_11:Nm)=>([(5,(gV n_11 2 s_8.1))]:List (Nat×V))) p.1 p.2) (fun p=>(fun (s_8:(List Run)×Int) (n_11:Nm)=>([(n_11,gB 2 Run.enc s_8.1)]:Hp)) p.1 p.2) (fun p=>o_14 = .go p.1) ?_ ?_
 ·refine aA (aV (β:=Nat×(List Run)×((List Run)×Int)×Nm) (fun p=>(fun (k_3:Nat) (l_4:List Run) (s_8:(List Run)×Int) (n_11:Nm)=>([(1,(vL Run.enc m_2)),(5,(gV n_11 2 s_8.1)),(6,(vI s_8.2)),(10,(vL Run.enc l_1)),(11,(vI (l_1.length:Int))),(12,(vI (k_3:Int)))]:List (Nat×V))) p.1 p.2.1 p.2.2.1 p.2.2.2) (fun p=>(fun (k_3:Nat) (l_4:List Run) (s_8:(List Run)×Int) (n_11:Nm)=>([(n_11,gB 2 Run.enc s_8.1)]:Hp)) p.1 p.2.1 p.2.2.1 p.2.2.2) (fun p=>forR (fun k x s=>kT m_2 k x s) p.2.1 p.1 p.2.2.1=some o_14∧(l_1).drop p.1=p.2.1) (fun p=>p.2.1.length) (0,l_1,(([]:List Run),0),n_9) ⟨hj_15,rfl⟩ rfl (aI rfl) ?_)
  rintro ⟨k_3,l_4,s_8,n_11⟩ ⟨hL_13,hD_6⟩
  dsimp only at hL_13 hD_6
  cases l_4 with
  | nil =>
   obtain rfl:=ah hL_13
   refine af (aa (ae (vB (decide ((k_3:Int) < (l_1.length:Int)))) wz rfl (aj ?_)))
   refine af (ax rfl (drop_nil hD_6) (aS ?_))
   exact aO (s_8,n_11) rfl rfl (aI rfl)
  | cons x_5 l_4 =>
   obtain ⟨c_,hc_12,hL_13⟩:=bind_some hL_13
   refine af (aa (ae (vB (decide ((k_3:Int) < (l_1.length:Int)))) wz rfl (aj ?_)))
   refine af (ay rfl (aX hD_6) (au ?_))
   unfold kT at hc_12
   refine af (aA (af (aa (dI kP rfl rfl (bC hD_6) rfl wz (bG mG vv rfl (.d (.agg (Run.enc x_5))) rfl wz (dh 0 (.inl rfl) GZ rfl wz (fun n_16=>fD 0 il ft 1 mG rfl rfl [(vI x_5.f_from),(vI x_5.f_to)] rfl wz (aj (af ?_)))))))))
   obtain ⟨o_25,hj_26,hc_12⟩:=bind_some hc_12
   obtain ⟨nq_72,hj_26⟩:=dB hj_26
   refine aD (β:=(Int)) (fun (s_22:Int)=>([(1,(vL Run.enc m_2)),(5,(gV n_11 2 s_8.1)),(6,(vI s_22)),(8,(.ref n_16 0 0)),(10,(vL Run.enc l_1)),(11,(vI (l_1.length:Int))),(12,(vI (k_3:Int)))]:List (Nat×V))) (fun (s_22:Int)=>([(n_11,gB 2 Run.enc s_8.1),(n_16,some (.cells 2 [(vI x_5.f_from),(vI x_5.f_to)]))]:Hp)) (fun p=>o_25 = .go p) ?_ ?_
   ·refine aA (aV (β:=Nat×(Int)) (fun p=>(fun (k_17:Nat) (s_22:Int)=>([(1,(vL Run.enc m_2)),(5,(gV n_11 2 s_8.1)),(6,(vI s_22)),(8,(.ref n_16 0 0)),(10,(vL Run.enc l_1)),(11,(vI (l_1.length:Int))),(12,(vI (k_3:Int)))]:List (Nat×V))) p.1 p.2) (fun p=>(fun (k_17:Nat) (s_22:Int)=>([(n_11,gB 2 Run.enc s_8.1),(n_16,some (.cells 2 [(vI x_5.f_from),(vI x_5.f_to)]))]:Hp)) p.1 p.2) (fun p=>iterN (fun s=>mM m_2 x_5 s) p.1 p.2=some o_25) (fun p=>p.1) (nq_72,s_8.2) hj_26 rfl (aI rfl) ?_)
    rintro ⟨k_17,s_22⟩ hL_24
    dsimp only at hL_24
    cases k_17 with
    | zero=>cases hL_24
    | succ k_17 =>
     obtain ⟨c_,hc_23,hL_24⟩:=bind_some hL_24
     unfold mM at hc_23
     refine af (af ?_)
     obtain ⟨v_27,h_28,hc_23⟩:=bind_some hc_23
     refine aD (β:=Unit) (fun _=>([(1,(vL Run.enc m_2)),(5,(gV n_11 2 s_8.1)),(6,(vI s_22)),(8,(.ref n_16 0 0)),(10,(vL Run.enc l_1)),(11,(vI (l_1.length:Int))),(12,(vI (k_3:Int))),(29,(vB v_27))]:List (Nat×V))) (fun _=>([(n_11,gB 2 Run.enc s_8.1),(n_16,some (.cells 2 [(vI x_5.f_from),(vI x_5.f_to)]))]:Hp)) (fun _=>True) ?_ ?_
     ·refine bA (ae (vI s_22) wz rfl (ae (vL Run.enc m_2) wz rfl (bO wK rfl wz (ae (vB (decide (s_22 < (m_2.length:Int)))) wz rfl ?_))))
      rcases ak h_28 with⟨hc_29,h_28⟩ | ⟨hc_29,h_28⟩
      ·refine av rfl hc_29 wz (ae (vL Run.enc m_2) wa rfl (ae (vI s_22) wa rfl ?_))
       obtain ⟨y_30,hy_31,h_28⟩:=bind_some h_28
       refine dI kP rfl rfl hy_31 rfl wa (pq pU rfl [.int .i64 y_30.f_to] rfl rfl wa (bG sz3 ag3 rfl (vI y_30.f_to) rfl wa (aG kE rfl 0 rfl wa (aC 11 1 (.inr (by kernel_rfl)) (fun _ _ ag=>trivial) sz3 ag3 rfl rfl (vI x_5.f_from) rfl wa (ae (vB (decide (y_30.f_to≤x_5.f_from))) wa rfl (ae (vB (decide (y_30.f_to≤x_5.f_from))) wz rfl (aj ?_)))))))
       obtain rfl:=ah h_28
       exact cu
      ·refine av rfl hc_29 wz (ai wa (ai wa (ai wa (ai wa (ai wa (ai wa (ai wa (ai wa (ae (vB false) wz rfl (aj ?_))))))))))
       obtain rfl:=ah h_28
       exact cu
     ·rintro ⟨⟩ _ sl_ H_ hp_ hq_
      refine aK _ hp_ hq_ ?_
      rcases ak hc_23 with⟨hc_32,hc_23⟩ | ⟨hc_32,hc_23⟩
      ·refine ay rfl hc_32 (au (aA (aa (ae (vI s_22) wz rfl (ae (vI (w64 (s_22 + 1))) wz rfl (ae (vI (w64 (s_22 + 1))) wz rfl (aj ?_)))))))
       obtain rfl:=ah hc_23
       exact aU (k_17,(w64 (s_22 + 1))) hL_24 (Nat.lt_succ_self _) rfl (aI rfl)
      ·refine ax rfl hc_32 (aS ?_)
       obtain rfl:=ah hc_23
       obtain rfl:=ah hL_24
       exact aO (s_22) rfl rfl (aI rfl)
   ·rintro s_22 ho_ sl_ H_ hp_ hq_
    subst ho_
    refine aK _ hp_ hq_ (af (af (aa (ae (vI s_22) wz rfl (ae (vI s_22) wz rfl (aj ?_))))))
    obtain ⟨o_43,hj_44,hc_12⟩:=bind_some hc_12
    obtain ⟨nq_71,hj_44⟩:=dB hj_44
    refine aD (β:=((List Run)×Int×Int)×Nm) (fun p=>(fun (s_38:(List Run)×Int×Int) (n_40:Nm)=>([(1,(vL Run.enc m_2)),(5,(gV n_40 2 s_38.1)),(6,(vI s_22)),(8,(.ref n_16 0 0)),(10,(vL Run.enc l_1)),(11,(vI (l_1.length:Int))),(12,(vI (k_3:Int)))]:List (Nat×V))) p.1 p.2) (fun p=>(fun (s_38:(List Run)×Int×Int) (n_40:Nm)=>([(n_40,gB 2 Run.enc s_38.1),(n_16,some (.cells 2 [(vI s_38.2.2),(vI x_5.f_to)]))]:Hp)) p.1 p.2) (fun p=>o_43 = .go p.1) ?_ ?_
    ·refine aA (aV (β:=Nat×((List Run)×Int×Int)×Nm) (fun p=>(fun (k_33:Nat) (s_38:(List Run)×Int×Int) (n_40:Nm)=>([(1,(vL Run.enc m_2)),(5,(gV n_40 2 s_38.1)),(6,(vI s_22)),(8,(.ref n_16 0 0)),(9,(vI s_38.2.1)),(10,(vL Run.enc l_1)),(11,(vI (l_1.length:Int))),(12,(vI (k_3:Int)))]:List (Nat×V))) p.1 p.2.1 p.2.2) (fun p=>(fun (k_33:Nat) (s_38:(List Run)×Int×Int) (n_40:Nm)=>([(n_40,gB 2 Run.enc s_38.1),(n_16,some (.cells 2 [(vI s_38.2.2),(vI x_5.f_to)]))]:Hp)) p.1 p.2.1 p.2.2) (fun p=>iterN (fun s=>mY m_2 x_5 s) p.1 p.2.1=some o_43) (fun p=>p.1) (nq_71,(s_8.1,s_22,x_5.f_from),n_11) hj_44 rfl (aI rfl) ?_)
     rintro ⟨k_33,s_38,n_40⟩ hL_42
     dsimp only at hL_42
     cases k_33 with
     | zero=>cases hL_42
     | succ k_33 =>
      obtain ⟨c_,hc_41,hL_42⟩:=bind_some hL_42
      unfold mY at hc_41
      refine af (af ?_)
      obtain ⟨v_45,h_46,hc_41⟩:=bind_some hc_41
      refine aD (β:=Unit) (fun _=>([(1,(vL Run.enc m_2)),(5,(gV n_40 2 s_38.1)),(6,(vI s_22)),(8,(.ref n_16 0 0)),(9,(vI s_38.2.1)),(10,(vL Run.enc l_1)),(11,(vI (l_1.length:Int))),(12,(vI (k_3:Int))),(46,(vB v_45))]:List (Nat×V))) (fun _=>([(n_40,gB 2 Run.enc s_38.1),(n_16,some (.cells 2 [(vI s_38.2.2),(vI x_5.f_to)]))]:Hp)) (fun _=>True) ?_ ?_
      ·refine bA (ae (vI s_38.2.1) wz rfl (ae (vL Run.enc m_2) wz rfl (bO wK rfl wz (ae (vB (decide (s_38.2.1 < (m_2.length:Int)))) wz rfl ?_))))
       rcases ak h_46 with⟨hc_47,h_46⟩ | ⟨hc_47,h_46⟩
       ·refine av rfl hc_47 wz (ae (vL Run.enc m_2) wa rfl (ae (vI s_38.2.1) wa rfl ?_))
        obtain ⟨y_48,hy_49,h_46⟩:=bind_some h_46
        refine dI kP rfl rfl hy_49 rfl wa (pq kE rfl [.int .i64 y_48.f_from,.int .i64 y_48.f_to] rfl rfl wa (bG sz3 ag3 rfl (vI y_48.f_from) rfl wa (aG pU rfl 1 rfl wa (aC 11 1 (.inr (by kernel_rfl)) (fun _ _ ag=>trivial) sz3 ag3 rfl rfl (vI x_5.f_to) rfl wa (ae (vB (decide (y_48.f_from < x_5.f_to))) wa rfl (ae (vB (decide (y_48.f_from < x_5.f_to))) wz rfl (aj ?_)))))))
        obtain rfl:=ah h_46
        exact cu
       ·refine av rfl hc_47 wz (ai wa (ai wa (ai wa (ai wa (ai wa (ai wa (ai wa (ai wa (ae (vB false) wz rfl (aj ?_))))))))))
        obtain rfl:=ah h_46
        exact cu
      ·rintro ⟨⟩ _ sl_ H_ hp_ hq_
       refine aK _ hp_ hq_ ?_
       rcases ak hc_41 with⟨hc_50,hc_41⟩ | ⟨hc_50,hc_41⟩
       ·refine ay rfl hc_50 (au (af (aA (af (af (bA (ae (vL Run.enc m_2) wz rfl (ae (vI s_38.2.1) wz rfl ?_))))))))
        obtain ⟨y_51,hy_52,hc_41⟩:=bind_some hc_41
        refine dI kP rfl rfl hy_52 rfl wz (pq kE rfl [.int .i64 y_51.f_from,.int .i64 y_51.f_to] rfl rfl wz (bG sz3 ag3 rfl (vI y_51.f_from) rfl wz (aG kE rfl 0 rfl wz (aC 6 1 (.inr (by kernel_rfl)) (fun _ _ ag=>trivial) sz3 ag3 rfl rfl (vI s_38.2.2) rfl wz (ae (vB (decide (y_51.f_from > s_38.2.2))) wz rfl (aj ?_))))))
        obtain ⟨v_53,h_54,hc_41⟩:=bind_some hc_41
        refine aD (β:=Nm) (fun (n_55:Nm)=>([(1,(vL Run.enc m_2)),(5,(gV n_55 2 v_53)),(6,(vI s_22)),(8,(.ref n_16 0 0)),(9,(vI s_38.2.1)),(10,(vL Run.enc l_1)),(11,(vI (l_1.length:Int))),(12,(vI (k_3:Int)))]:List (Nat×V))) (fun (n_55:Nm)=>([(n_55,gB 2 Run.enc v_53),(n_16,some (.cells 2 [(vI s_38.2.2),(vI x_5.f_to)]))]:Hp)) (fun _=>True) ?_ ?_
        ·rcases ak h_54 with⟨hc_56,h_54⟩ | ⟨hc_56,h_54⟩
         ·refine ay rfl hc_56 (bA (ae (gV n_40 2 s_38.1) wz rfl (aG kE rfl 0 rfl wz (aC 2 1 (.inr (by kernel_rfl)) (fun _ _ ag=>trivial) sz3 ag3 rfl rfl (vI s_38.2.2) rfl wz (ae (vL Run.enc m_2) wz rfl (ae (vI s_38.2.1) wz rfl ?_))))))
          obtain ⟨y_57,hy_58,h_54⟩:=bind_some h_54
          refine dI kP rfl rfl hy_58 rfl wz (pq kE rfl [.int .i64 y_57.f_from,.int .i64 y_57.f_to] rfl rfl wz (bG sz3 ag3 rfl (vI y_57.f_from) rfl wz (ae (.d (.agg (Run.enc (⟨s_38.2.2,y_57.f_from⟩:Run)))) wz (by kernel_rfl) (eQ (([(⟨s_38.2.2,y_57.f_from⟩:Run)]:List Run).map Run.enc) kP Iu rfl rfl rfl rfl rfl wz ?_))))
          obtain ⟨a_59,hz_60,h_54⟩:=bind_some h_54
          refine jT 10 (.inr (by kernel_rfl)) (fun _ _ ag=>⟨.inr (.inr (by kernel_rfl)),trivial⟩) (i:=0) zf zf mG GZ rfl (by decide) Hz (by decide) (fun _=>rfl) rfl rfl rfl hz_60 wz (fun n_61=>ae (gV n_61 2 a_59) wz rfl (aj ?_))
          obtain rfl:=ah h_54
          exact aO n_61 trivial rfl (aI rfl)
         ·refine ax rfl hc_56 (au ?_)
          obtain rfl:=ah h_54
          exact aO n_40 trivial rfl (aI rfl)
        ·rintro n_55 _ sl_ H_ hp_ hq_
         refine aK _ hp_ hq_ (bA (aG kE rfl 0 rfl wz (aC 1 1 (.inr (by kernel_rfl)) (fun _ _ ag=>trivial) sz3 ag3 rfl rfl (vI s_38.2.2) rfl wz (ae (vL Run.enc m_2) wz rfl (ae (vI s_38.2.1) wz rfl ?_)))))
         obtain ⟨y_62,hy_63,hc_41⟩:=bind_some hc_41
         refine dI kP rfl rfl hy_63 rfl wz (pq pU rfl [.int .i64 y_62.f_to] rfl rfl wz (bG sz3 ag3 rfl (vI y_62.f_to) rfl wz (qi (vI (sI s_38.2.2 y_62.f_to)) rfl (.inr rfl) wz (aG kE rfl 0 rfl wz (fD 9 (.inr (by kernel_rfl)) (fun _ _ ag=>⟨.inr (.inr (by kernel_rfl)),trivial⟩) 1 sz3 rfl rfl [(vI (sI s_38.2.2 y_62.f_to)),(vI x_5.f_to)] rfl wz (aj (aa (ae (vI s_38.2.1) wz rfl (ae (vI (w64 (s_38.2.1 + 1))) wz rfl (ae (vI (w64 (s_38.2.1 + 1))) wz rfl (aj ?_)))))))))))
         obtain rfl:=ah hc_41
         exact aU (k_33,(v_53,(w64 (s_38.2.1 + 1)),(sI s_38.2.2 y_62.f_to)),n_55) hL_42 (Nat.lt_succ_self _) rfl (aI rfl)
       ·refine ax rfl hc_50 (aS ?_)
        obtain rfl:=ah hc_41
        obtain rfl:=ah hL_42
        exact aO ((s_38.1,s_38.2.1,s_38.2.2),n_40) rfl rfl (aI rfl)
    ·rintro ⟨s_38,n_40⟩ ho_ sl_ H_ hp_ hq_
     subst ho_
     refine aK _ hp_ hq_ (af (aa (aG kE rfl 0 rfl wz (aC 0 1 il ft sz3 ag3 rfl rfl (vI s_38.2.2) rfl wz (aG pU rfl 1 rfl wz (aC 0 1 il ft sz3 ag3 rfl rfl (vI x_5.f_to) rfl wz (ae (vB (decide (s_38.2.2 < x_5.f_to))) wz rfl (aj ?_))))))))
     obtain ⟨v_64,h_65,hc_12⟩:=bind_some hc_12
     refine aD (β:=Nm) (fun (n_66:Nm)=>([(1,(vL Run.enc m_2)),(5,(gV n_66 2 v_64)),(6,(vI s_22)),(10,(vL Run.enc l_1)),(11,(vI (l_1.length:Int))),(12,(vI (k_3:Int)))]:List (Nat×V))) (fun (n_66:Nm)=>([(n_66,gB 2 Run.enc v_64),(n_16,some (.cells 2 [(vI s_38.2.2),(vI x_5.f_to)]))]:Hp)) (fun _=>True) ?_ ?_
     ·rcases ak h_65 with⟨hc_67,h_65⟩ | ⟨hc_67,h_65⟩
      ·refine ay rfl hc_67 (aa (ae (gV n_40 2 s_38.1) wz rfl (aC 0 1 il ft mG vv rfl rfl (.d (.agg (Run.enc (⟨s_38.2.2,x_5.f_to⟩:Run)))) rfl wz (eQ (([(⟨s_38.2.2,x_5.f_to⟩:Run)]:List Run).map Run.enc) kP Iu rfl rfl rfl rfl rfl wz ?_))))
       obtain ⟨a_68,hz_69,h_65⟩:=bind_some h_65
       refine jT 0 il ft (i:=0) zf zf mG GZ rfl (by decide) Hz (by decide) (fun _=>rfl) rfl rfl rfl hz_69 wz (fun n_70=>ae (gV n_70 2 a_68) wz rfl (aj ?_))
       obtain rfl:=ah h_65
       exact aO n_70 trivial rfl (aI rfl)
      ·refine ax rfl hc_67 (au ?_)
       obtain rfl:=ah h_65
       exact aO n_40 trivial rfl (aI rfl)
     ·rintro n_66 _ sl_ H_ hp_ hq_
      refine aK _ hp_ hq_ (aa (dY (bn hD_6 hn_7) wz rfl (ae (vI ((k_3 + 1:Nat):Int)) wz rfl (aj ?_))))
      obtain rfl:=ah hc_12
      exact aU (k_3 + 1,l_4,(v_64,s_22),n_66) ⟨hL_13,aR hD_6⟩ (Nat.lt_succ_self _) rfl (aI rfl)
 ·rintro ⟨s_8,n_11⟩ ho_ sl_ H_ hp_ hq_
  subst ho_
  refine aK _ hp_ hq_ (af (aa (ae (gV n_11 2 s_8.1) wz rfl (ae (gV n_11 2 s_8.1) wz rfl (aj (gM 0 rfl (dQ 4 0 rfl rfl (dQ 5 0 rfl rfl (dQ 87 0 rfl rfl ?_)))))))))
  obtain rfl:=ah hF
  exact aB (aP (.inr rfl) [(vL Run.enc s_8.1)] ⟨rfl,trivial⟩ rfl rfl rfl)
theorem lJ {s1_1:(List Run)} {s2_2:(List Run)} {r:Bool} (hF:dC s1_1 s2_2=some r) :
  FnM Tryz.prog 148 [(vL Run.enc s1_1),(vL Run.enc s2_2)] [] (vB r) []:=by
 refine FnM.of_wH ⟨Tryz.prog,26,[],[]⟩ rfl Tryz.func148 rfl rfl (Nat.le_of_ble_eq_true rfl) (by kernel_rfl) ?_
 unfold dC at hF
 refine af (aa (ae (vB false) wz rfl (aj (af (af (aa (ae (vL Run.enc s1_1) wz rfl (bO wK rfl wz (ae (vL Run.enc s2_2) wz rfl (bO wK rfl wz (ae (vB ((s1_1.length:Int) != (s2_2.length:Int))) wz rfl (aj ?_))))))))))))
 rcases ak hF with⟨hc_3,hF⟩ | ⟨hc_3,hF⟩
 ·refine ay rfl hc_3 (af (aa (ae (vB false) wz rfl (aj ?_))))
  obtain rfl:=ah hF
  exact aB (aP (.inr rfl) [(vB false)] ⟨rfl,trivial⟩ rfl rfl rfl)
 ·refine ax rfl hc_3 (au (af (af (aa (ae (vL Run.enc s1_1) wz rfl (bO wK rfl wz (ae (vI 0) wz rfl (aj ?_))))))))
  obtain ⟨o_12,hj_13,hF⟩:=bind_some hF
  obtain ⟨hn_8,hj_13⟩:=aW hj_13
  refine aD (β:=(Unit)) (fun (s_9:Unit)=>([]:List (Nat×V))) (fun (s_9:Unit)=>([]:Hp)) (fun p=>o_12 = .go p) ?_ ?_
  ·refine aA (aV (β:=Nat×(List Run)×(Unit)) (fun p=>(fun (k_4:Nat) (l_5:List Run) (s_9:Unit)=>([(0,(vL Run.enc s1_1)),(1,(vL Run.enc s2_2)),(12,(vI (s1_1.length:Int))),(13,(vI (k_4:Int)))]:List (Nat×V))) p.1 p.2.1 p.2.2) (fun p=>(fun (k_4:Nat) (l_5:List Run) (s_9:Unit)=>([]:Hp)) p.1 p.2.1 p.2.2) (fun p=>forR (fun k x s=>ek s2_2 k x s) p.2.1 p.1 p.2.2=some o_12∧(s1_1).drop p.1=p.2.1) (fun p=>p.2.1.length) (0,s1_1,()) ⟨hj_13,rfl⟩ rfl (aI rfl) ?_)
   rintro ⟨k_4,l_5,s_9⟩ ⟨hL_11,hD_7⟩
   dsimp only at hL_11 hD_7
   cases l_5 with
   | nil =>
    obtain rfl:=ah hL_11
    refine af (aa (ae (vB (decide ((k_4:Int) < (s1_1.length:Int)))) wz rfl (aj ?_)))
    refine af (ax rfl (drop_nil hD_7) (aS ?_))
    exact aO (s_9) rfl rfl (aI rfl)
   | cons x_6 l_5 =>
    obtain ⟨c_,hc_10,hL_11⟩:=bind_some hL_11
    refine af (aa (ae (vB (decide ((k_4:Int) < (s1_1.length:Int)))) wz rfl (aj ?_)))
    refine af (ay rfl (aX hD_7) (au ?_))
    unfold ek at hc_10
    refine af (aA (af (aa (ae (vI (k_4:Int)) wz rfl (ae (vI (k_4:Int)) wz rfl (aj (af (bA (ae (vL Run.enc s1_1) wz rfl (ae (vI (k_4:Int)) wz rfl (dI kP rfl rfl (bC hD_7) rfl wz (bG mG vv rfl (.d (.agg (Run.enc x_6))) rfl wz (ae (vL Run.enc s2_2) wz rfl (ae (vI (k_4:Int)) wz rfl ?_))))))))))))))
    obtain ⟨y_14,hy_15,hc_10⟩:=bind_some hc_10
    refine dI kP rfl rfl hy_15 rfl wz (bG mG vv rfl (.d (.agg (Run.enc y_14))) rfl wz (ae (vB (!((x_6.f_from == y_14.f_from) && ((x_6.f_to == y_14.f_to) && true)))) wz (by kernel_rfl) (aj ?_)))
    rcases ak hc_10 with⟨hc_16,hc_10⟩ | ⟨hc_16,hc_10⟩
    ·refine ay rfl hc_16 (af (aa (ae (vB false) wz rfl (aj ?_))))
     obtain rfl:=ah hc_10
     obtain rfl:=ah hL_11
     obtain rfl:=ah hF
     exact aB (aP (.inr rfl) [(vB false)] ⟨rfl,trivial⟩ rfl rfl rfl)
    ·refine ax rfl hc_16 (au (aa (dY (bn hD_7 hn_8) wz rfl (ae (vI ((k_4 + 1:Nat):Int)) wz rfl (aj ?_)))))
     obtain rfl:=ah hc_10
     exact aU (k_4 + 1,l_5,()) ⟨hL_11,aR hD_7⟩ (Nat.lt_succ_self _) rfl (aI rfl)
  ·rintro s_9 ho_ sl_ H_ hp_ hq_
   subst ho_
   refine aK _ hp_ hq_ (af (aa (ae (vB true) wz rfl (aj ?_))))
   obtain rfl:=ah hF
   exact aB (aP (.inr rfl) [(vB true)] ⟨rfl,trivial⟩ rfl rfl rfl)
theorem yE {l_1:(List Rect)} {m_2:(List Rect)} {r:(List Rect)} (hF:lX l_1 m_2=some r) :
  FnM Tryz.prog 69 [(vL Rect.enc l_1),(vL Rect.enc m_2)] [] (vL Rect.enc r) []:=by
 refine FnM.of_wH ⟨Tryz.prog,88,[],[]⟩ rfl Tryz.func69 rfl rfl (Nat.le_of_ble_eq_true rfl) (by kernel_rfl) ?_
 unfold lX at hF
 refine af (aa (ae .nil wz rfl (aj (af (aa (ae .nil wz rfl (aj (af (af (aa (ae (vL Rect.enc l_1) wz rfl (ae (vL Rect.enc m_2) wz rfl (eQ (([l_1,m_2]:List (List Rect)).map (eL Rect.enc)) JV ez260 rfl rfl rfl rfl rfl wz ?_)))))))))))))
 obtain ⟨r_3,hr_4,hF⟩:=bind_some hF
 refine aF (mg hr_4) rfl hb145 rfl rfl rfl rfl wz (bO yI rfl wz (ae (vI 0) wz rfl (aj (lT (fun n_11 => ?_)))))
 obtain ⟨o_16,hj_17,hF⟩:=bind_some hF
 obtain ⟨hn_9,hj_17⟩:=aW hj_17
 refine aD (β:=((List Int))×Nm) (fun p=>(fun (s_10:(List Int)) (n_13:Nm)=>([(0,(vL Rect.enc l_1)),(1,(vL Rect.enc m_2)),(5,(gV n_13 1 s_10))]:List (Nat×V))) p.1 p.2) (fun p=>(fun (s_10:(List Int)) (n_13:Nm)=>([(n_13,gB 1 eI s_10)]:Hp)) p.1 p.2) (fun p=>o_16 = .go p.1) ?_ ?_
 ·refine aA (aV (β:=Nat×(List Rect)×((List Int))×Nm) (fun p=>(fun (k_5:Nat) (l_6:List Rect) (s_10:(List Int)) (n_13:Nm)=>([(0,(vL Rect.enc l_1)),(1,(vL Rect.enc m_2)),(5,(gV n_13 1 s_10)),(19,(vL Rect.enc r_3)),(20,(vI (r_3.length:Int))),(21,(vI (k_5:Int)))]:List (Nat×V))) p.1 p.2.1 p.2.2.1 p.2.2.2) (fun p=>(fun (k_5:Nat) (l_6:List Rect) (s_10:(List Int)) (n_13:Nm)=>([(n_13,gB 1 eI s_10)]:Hp)) p.1 p.2.1 p.2.2.1 p.2.2.2) (fun p=>forR (fun k x s=>lH k x s) p.2.1 p.1 p.2.2.1=some o_16∧(r_3).drop p.1=p.2.1) (fun p=>p.2.1.length) (0,r_3,([]:List Int),n_11) ⟨hj_17,rfl⟩ rfl (aI rfl) ?_)
  rintro ⟨k_5,l_6,s_10,n_13⟩ ⟨hL_15,hD_8⟩
  dsimp only at hL_15 hD_8
  cases l_6 with
  | nil =>
   obtain rfl:=ah hL_15
   refine af (aa (ae (vB (decide ((k_5:Int) < (r_3.length:Int)))) wz rfl (aj ?_)))
   refine af (ax rfl (drop_nil hD_8) (aS ?_))
   exact aO (s_10,n_13) rfl rfl (aI rfl)
  | cons x_7 l_6 =>
   obtain ⟨c_,hc_14,hL_15⟩:=bind_some hL_15
   refine af (aa (ae (vB (decide ((k_5:Int) < (r_3.length:Int)))) wz rfl (aj ?_)))
   refine af (ay rfl (aX hD_8) (au ?_))
   unfold lH at hc_14
   refine af (aA (af (aa (dI Cj rfl rfl (bC hD_8) rfl wz (bG rF DK rfl (.d (.agg (Rect.enc x_7))) rfl wz (dh 0 (.inl rfl) z45 rfl wz (fun n_18=>fD 0 il ft 1 rF rfl rfl [(vI x_7.X),(vI x_7.Y),(vI x_7.W),(vI x_7.H)] rfl wz (aj (aa (ae (gV n_13 1 s_10) wz rfl (aG uI rfl 1 rfl wz (aC 0 1 il ft sz3 ag3 rfl rfl (vI x_7.Y) rfl wz (aG uI rfl 1 rfl wz (aC 0 1 il ft sz3 ag3 rfl rfl (vI x_7.Y) rfl wz (aG Ar rfl 3 rfl wz (aC 0 1 il ft sz3 ag3 rfl rfl (vI x_7.H) rfl wz (ae (vI (w64 (x_7.Y + x_7.H))) wz rfl (eQ (([x_7.Y,(w64 (x_7.Y + x_7.H))]:List Int).map eI) nM Di rfl rfl rfl rfl rfl wz ?_))))))))))))))))))
   obtain ⟨a_19,hz_20,hc_14⟩:=bind_some hc_14
   refine jT 0 il ft (i:=0) Lu Lu sz3 z3 rfl (by decide) by3 (by decide) (fun _=>rfl) rfl rfl rfl hz_20 wz (fun n_21=>ae (gV n_21 1 a_19) wz rfl (aj (aa (dY (bn hD_8 hn_9) wz rfl (ae (vI ((k_5 + 1:Nat):Int)) wz rfl (aj ?_))))))
   obtain rfl:=ah hc_14
   exact aU (k_5 + 1,l_6,a_19,n_21) ⟨hL_15,aR hD_8⟩ (Nat.lt_succ_self _) rfl (aI rfl)
 ·rintro ⟨s_10,n_13⟩ ho_ sl_ H_ hp_ hq_
  subst ho_
  refine aK _ hp_ hq_ (af (aa (ae (gV n_13 1 s_10) wz rfl ?_)))
  obtain ⟨r_22,hr_23,hF⟩:=bind_some hF
  obtain ⟨_,hs_24,hF⟩:=bind_some hF
  replace hs_24:=oD hs_24
  refine pQ 0 [] 0 0 il ft (qL hr_23) rfl hb90 rfl rfl rfl (by kernel_rfl) rfl (.inl rfl) rfl (by kernel_rfl) (by kernel_rfl) (by kernel_rfl) (by kernel_rfl) rfl (by decide) (by kernel_rfl) pu (zh hs_24) wz ([(n_13,gB 1 eI r_22)]:Hp) (by kernel_rfl) (fU (v':=(gV n_13 1 r_22)) 36 rfl (lc hs_24.symm) (fU (v':=(gV n_13 1 r_22)) 5 rfl (lc hs_24.symm) (aj (af (aa (ae (gV n_13 1 r_22) wz rfl ?_))))))
  obtain ⟨r_25,hr_26,hF⟩:=bind_some hF
  refine pQ 0 [] 0 0 il ft (oQ hr_26) rfl hb91 rfl rfl rfl (by kernel_rfl) rfl (.inl rfl) rfl (by kernel_rfl) (by kernel_rfl) (by kernel_rfl) (by kernel_rfl) rfl (by decide) (by kernel_rfl) zR (fun _=>rfl) wz ([(n_13,none)]:Hp) (by kernel_rfl) (ae (vL eI r_25) wz rfl (aj (af (aa (ae .nil wz rfl (aj (af (aa (ae .nil wz rfl (aj (af (aa (ae (vI 0) wz rfl (aj (af (af (aa (ae (vL eI r_25) wz rfl (bO vZ rfl wz (ae (vI 0) wz rfl (aj (IE Run.enc 9 rfl (lT (fun n_33 => ?_))))))))))))))))))))))))
  obtain ⟨o_38,hj_39,hF⟩:=bind_some hF
  obtain ⟨hn_31,hj_39⟩:=aW hj_39
  refine aD (β:=((List Rect)×(List Run)×Int)×Nm) (fun p=>(fun (s_32:(List Rect)×(List Run)×Int) (n_35:Nm)=>([(8,(gV n_35 4 s_32.1))]:List (Nat×V))) p.1 p.2) (fun p=>(fun (s_32:(List Rect)×(List Run)×Int) (n_35:Nm)=>([(n_13,none),(n_35,gB 4 Rect.enc s_32.1)]:Hp)) p.1 p.2) (fun p=>o_38 = .go p.1) ?_ ?_
  ·refine aA (aV (β:=Nat×(List Int)×((List Rect)×(List Run)×Int)×Nm) (fun p=>(fun (k_27:Nat) (l_28:List Int) (s_32:(List Rect)×(List Run)×Int) (n_35:Nm)=>([(0,(vL Rect.enc l_1)),(1,(vL Rect.enc m_2)),(5,(vL eI r_25)),(8,(gV n_35 4 s_32.1)),(9,(vL Run.enc s_32.2.1)),(10,(vI s_32.2.2)),(40,(vL eI r_25)),(41,(vI (r_25.length:Int))),(42,(vI (k_27:Int)))]:List (Nat×V))) p.1 p.2.1 p.2.2.1 p.2.2.2) (fun p=>(fun (k_27:Nat) (l_28:List Int) (s_32:(List Rect)×(List Run)×Int) (n_35:Nm)=>([(n_13,none),(n_35,gB 4 Rect.enc s_32.1)]:Hp)) p.1 p.2.1 p.2.2.1 p.2.2.2) (fun p=>forR (fun k x s=>jw r_25 l_1 m_2 k x s) p.2.1 p.1 p.2.2.1=some o_38∧(r_25).drop p.1=p.2.1) (fun p=>p.2.1.length) (0,r_25,(([]:List Rect),([]:List Run),0),n_33) ⟨hj_39,rfl⟩ rfl (aI rfl) ?_)
   rintro ⟨k_27,l_28,s_32,n_35⟩ ⟨hL_37,hD_30⟩
   dsimp only at hL_37 hD_30
   cases l_28 with
   | nil =>
    obtain rfl:=ah hL_37
    refine af (aa (ae (vB (decide ((k_27:Int) < (r_25.length:Int)))) wz rfl (aj ?_)))
    refine af (ax rfl (drop_nil hD_30) (aS ?_))
    exact aO (s_32,n_35) rfl rfl (aI rfl)
   | cons x_29 l_28 =>
    obtain ⟨c_,hc_36,hL_37⟩:=bind_some hL_37
    refine af (aa (ae (vB (decide ((k_27:Int) < (r_25.length:Int)))) wz rfl (aj ?_)))
    refine af (ay rfl (aX hD_30) (au ?_))
    unfold jw at hc_36
    refine af (aA (af (aa (ae (vI (k_27:Int)) wz rfl (dI nM rfl rfl (bC hD_30) rfl wz (bG sz3 ag3 rfl (vI x_29) rfl wz (ae (vI (k_27:Int)) wz rfl (ae (vI x_29) wz rfl (aj (af (aa (ae .nil wz rfl (aj (af (af (aa (ae (vI (k_27:Int)) wz rfl (ae (vI (w64 ((k_27:Int) + 1))) wz rfl (ae (vL eI r_25) wz rfl (bO vZ rfl wz (ae (vB (decide ((w64 ((k_27:Int) + 1)) < (r_25.length:Int)))) wz rfl (aj (IE Run.enc 13 rfl ?_)))))))))))))))))))))))
    obtain ⟨v_42,h_43,hc_36⟩:=bind_some hc_36
    refine aD (β:=Unit) (fun _=>([(0,(vL Rect.enc l_1)),(1,(vL Rect.enc m_2)),(5,(vL eI r_25)),(8,(gV n_35 4 s_32.1)),(9,(vL Run.enc s_32.2.1)),(10,(vI s_32.2.2)),(12,(vI x_29)),(13,(vL Run.enc v_42)),(40,(vL eI r_25)),(41,(vI (r_25.length:Int))),(42,(vI (k_27:Int)))]:List (Nat×V))) (fun _=>([(n_13,none),(n_35,gB 4 Rect.enc s_32.1)]:Hp)) (fun _=>True) ?_ ?_
    ·rcases ak h_43 with⟨hc_44,h_43⟩ | ⟨hc_44,h_43⟩
     ·refine ay rfl hc_44 (aa (ae (vL Rect.enc l_1) wz rfl (ae (vI x_29) wz rfl ?_)))
      obtain ⟨r_45,hr_46,h_43⟩:=bind_some h_43
      refine aF (uJ hr_46) rfl hb147 rfl rfl rfl rfl wz (ae (vL Rect.enc m_2) wz rfl (ae (vI x_29) wz rfl ?_))
      obtain ⟨r_47,hr_48,h_43⟩:=bind_some h_43
      refine aF (uJ hr_48) rfl hb147 rfl rfl rfl rfl wz ?_
      obtain ⟨r_49,hr_50,h_43⟩:=bind_some h_43
      refine aF (AZ hr_50) rfl hb146 rfl rfl rfl rfl wz (ae (vL Run.enc r_49) wz rfl (aj ?_))
      obtain rfl:=ah h_43
      exact cu
     ·refine ax rfl hc_44 (au ?_)
      obtain rfl:=ah h_43
      exact cu
    ·rintro ⟨⟩ _ sl_ H_ hp_ hq_
     refine aK _ hp_ hq_ (af (af (aa (ae (vL Run.enc s_32.2.1) wz rfl (ae (vL Run.enc v_42) wz rfl ?_)))))
     obtain ⟨r_51,hr_52,hc_36⟩:=bind_some hc_36
     refine aF (lJ hr_52) rfl hb148 rfl rfl rfl rfl wz (aj ?_)
     rcases ak hc_36 with⟨hc_53,hc_36⟩ | ⟨hc_53,hc_36⟩
     ·refine ay rfl hc_53 (aS (aa (dY (bn hD_30 hn_31) wz rfl (ae (vI ((k_27 + 1:Nat):Int)) wz rfl (aj ?_)))))
      obtain rfl:=ah hc_36
      exact aU (k_27 + 1,l_28,(s_32.1,s_32.2.1,s_32.2.2),n_35) ⟨hL_37,aR hD_30⟩ (Nat.lt_succ_self _) rfl (aI rfl)
     ·refine ax rfl hc_53 (au (af (af (aa (ae (vL Run.enc s_32.2.1) wz rfl (bO wK rfl wz (ae (vI 0) wz rfl (aj ?_))))))))
      obtain ⟨o_64,hj_65,hc_36⟩:=bind_some hc_36
      obtain ⟨hn_58,hj_65⟩:=aW hj_65
      refine aD (β:=((List Rect))×Nm) (fun p=>(fun (s_59:(List Rect)) (n_61:Nm)=>([(0,(vL Rect.enc l_1)),(1,(vL Rect.enc m_2)),(5,(vL eI r_25)),(8,(gV n_61 4 s_59)),(12,(vI x_29)),(13,(vL Run.enc v_42)),(40,(vL eI r_25)),(41,(vI (r_25.length:Int))),(42,(vI (k_27:Int)))]:List (Nat×V))) p.1 p.2) (fun p=>(fun (s_59:(List Rect)) (n_61:Nm)=>([(n_13,none),(n_61,gB 4 Rect.enc s_59)]:Hp)) p.1 p.2) (fun p=>o_64 = .go p.1) ?_ ?_
      ·refine aA (aV (β:=Nat×(List Run)×((List Rect))×Nm) (fun p=>(fun (k_54:Nat) (l_55:List Run) (s_59:(List Rect)) (n_61:Nm)=>([(0,(vL Rect.enc l_1)),(1,(vL Rect.enc m_2)),(5,(vL eI r_25)),(8,(gV n_61 4 s_59)),(10,(vI s_32.2.2)),(12,(vI x_29)),(13,(vL Run.enc v_42)),(40,(vL eI r_25)),(41,(vI (r_25.length:Int))),(42,(vI (k_27:Int))),(62,(vL Run.enc s_32.2.1)),(63,(vI (s_32.2.1.length:Int))),(64,(vI (k_54:Int)))]:List (Nat×V))) p.1 p.2.1 p.2.2.1 p.2.2.2) (fun p=>(fun (k_54:Nat) (l_55:List Run) (s_59:(List Rect)) (n_61:Nm)=>([(n_13,none),(n_61,gB 4 Rect.enc s_59)]:Hp)) p.1 p.2.1 p.2.2.1 p.2.2.2) (fun p=>forR (fun k x s=>lM s_32 x_29 k x s) p.2.1 p.1 p.2.2.1=some o_64∧(s_32.2.1).drop p.1=p.2.1) (fun p=>p.2.1.length) (0,s_32.2.1,s_32.1,n_35) ⟨hj_65,rfl⟩ rfl (aI rfl) ?_)
       rintro ⟨k_54,l_55,s_59,n_61⟩ ⟨hL_63,hD_57⟩
       dsimp only at hL_63 hD_57
       cases l_55 with
       | nil =>
        obtain rfl:=ah hL_63
        refine af (aa (ae (vB (decide ((k_54:Int) < (s_32.2.1.length:Int)))) wz rfl (aj ?_)))
        refine af (ax rfl (drop_nil hD_57) (aS ?_))
        exact aO (s_59,n_61) rfl rfl (aI rfl)
       | cons x_56 l_55 =>
        obtain ⟨c_,hc_62,hL_63⟩:=bind_some hL_63
        refine af (aa (ae (vB (decide ((k_54:Int) < (s_32.2.1.length:Int)))) wz rfl (aj ?_)))
        refine af (ay rfl (aX hD_57) (au ?_))
        unfold lM at hc_62
        refine af (aA (af (aa (dI kP rfl rfl (bC hD_57) rfl wz (bG mG vv rfl (.d (.agg (Run.enc x_56))) rfl wz (dh 0 (.inl rfl) GZ rfl wz (fun n_66=>fD 0 il ft 2 mG rfl rfl [(vI x_56.f_from),(vI x_56.f_to)] rfl wz (aj (aa (ae (gV n_61 4 s_59) wz rfl (aG kE rfl 0 rfl wz (aC 0 2 il ft sz3 ag3 rfl rfl (vI x_56.f_from) rfl wz (ae (vI s_32.2.2) wz rfl (aG pU rfl 1 rfl wz (aC 0 2 il ft sz3 ag3 rfl rfl (vI x_56.f_to) rfl wz (aG kE rfl 0 rfl wz (aC 0 2 il ft sz3 ag3 rfl rfl (vI x_56.f_from) rfl wz (ae (vI (w64 (x_56.f_to - x_56.f_from))) wz rfl (ae (vI x_29) wz rfl (ae (vI s_32.2.2) wz rfl (ae (vI (w64 (x_29 - s_32.2.2))) wz rfl (ae (.d (.agg (Rect.enc (⟨x_56.f_from,s_32.2.2,(w64 (x_56.f_to - x_56.f_from)),(w64 (x_29 - s_32.2.2))⟩:Rect)))) wz (by kernel_rfl) (eQ (([(⟨x_56.f_from,s_32.2.2,(w64 (x_56.f_to - x_56.f_from)),(w64 (x_29 - s_32.2.2))⟩:Rect)]:List Rect).map Rect.enc) Cj ez98 rfl rfl rfl rfl rfl wz ?_)))))))))))))))))))))))
        obtain ⟨a_67,hz_68,hc_62⟩:=bind_some hc_62
        refine jT 0 il ft (i:=1) C9 C9 rF z45 rfl (by decide) by45 (by decide) (fun _=>rfl) rfl rfl rfl hz_68 wz (fun n_69=>ae (gV n_69 4 a_67) wz rfl (aj (aa (dY (bn hD_57 hn_58) wz rfl (ae (vI ((k_54 + 1:Nat):Int)) wz rfl (aj ?_))))))
        obtain rfl:=ah hc_62
        exact aU (k_54 + 1,l_55,a_67,n_69) ⟨hL_63,aR hD_57⟩ (Nat.lt_succ_self _) rfl (aI rfl)
      ·rintro ⟨s_59,n_61⟩ ho_ sl_ H_ hp_ hq_
       subst ho_
       refine aK _ hp_ hq_ (aa (ae (vL Run.enc v_42) wz rfl (ae (vI x_29) wz rfl (ae (vL Run.enc v_42) wz rfl (ae (vI x_29) wz rfl (aj (aa (dY (bn hD_30 hn_31) wz rfl (ae (vI ((k_27 + 1:Nat):Int)) wz rfl (aj ?_))))))))))
       obtain rfl:=ah hc_36
       exact aU (k_27 + 1,l_28,(s_59,v_42,x_29),n_61) ⟨hL_37,aR hD_30⟩ (Nat.lt_succ_self _) rfl (aI rfl)
  ·rintro ⟨s_32,n_35⟩ ho_ sl_ H_ hp_ hq_
   subst ho_
   refine aK _ hp_ hq_ (af (aa (ae (gV n_35 4 s_32.1) wz rfl (ae (gV n_35 4 s_32.1) wz rfl (aj (gM 1 rfl (dQ 4 1 rfl rfl (dQ 8 1 rfl rfl (dQ 87 1 rfl rfl ?_)))))))))
   obtain rfl:=ah hF
   exact aB (aP (.inr rfl) [(vL Rect.enc s_32.1)] ⟨rfl,trivial⟩ rfl rfl rfl)
theorem Bh {l_1:(List Rect)} {r:Int} (hF:qQ l_1=some r) :
  FnM Tryz.prog 68 [(vL Rect.enc l_1)] [] (vI r) []:=by
 refine FnM.of_wH ⟨Tryz.prog,21,[],[]⟩ rfl Tryz.func68 rfl rfl (Nat.le_of_ble_eq_true rfl) (by kernel_rfl) ?_
 unfold qQ at hF
 refine af (aa (ae (vI 0) wz rfl (aj (af (aa (ae (vI 0) wz rfl (aj (af (af (aa (ae (vL Rect.enc l_1) wz rfl (bO yI rfl wz (ae (vI 0) wz rfl (aj ?_))))))))))))))
 obtain ⟨o_10,hj_11,hF⟩:=bind_some hF
 obtain ⟨hn_6,hj_11⟩:=aW hj_11
 refine aD (β:=(Int)) (fun (s_7:Int)=>([(3,(vI s_7))]:List (Nat×V))) (fun (s_7:Int)=>([]:Hp)) (fun p=>o_10 = .go p) ?_ ?_
 ·refine aA (aV (β:=Nat×(List Rect)×(Int)) (fun p=>(fun (k_2:Nat) (l_3:List Rect) (s_7:Int)=>([(3,(vI s_7)),(6,(vL Rect.enc l_1)),(7,(vI (l_1.length:Int))),(8,(vI (k_2:Int)))]:List (Nat×V))) p.1 p.2.1 p.2.2) (fun p=>(fun (k_2:Nat) (l_3:List Rect) (s_7:Int)=>([]:Hp)) p.1 p.2.1 p.2.2) (fun p=>forR (fun k x s=>qz k x s) p.2.1 p.1 p.2.2=some o_10∧(l_1).drop p.1=p.2.1) (fun p=>p.2.1.length) (0,l_1,0) ⟨hj_11,rfl⟩ rfl (aI rfl) ?_)
  rintro ⟨k_2,l_3,s_7⟩ ⟨hL_9,hD_5⟩
  dsimp only at hL_9 hD_5
  cases l_3 with
  | nil =>
   obtain rfl:=ah hL_9
   refine af (aa (ae (vB (decide ((k_2:Int) < (l_1.length:Int)))) wz rfl (aj ?_)))
   refine af (ax rfl (drop_nil hD_5) (aS ?_))
   exact aO (s_7) rfl rfl (aI rfl)
  | cons x_4 l_3 =>
   obtain ⟨c_,hc_8,hL_9⟩:=bind_some hL_9
   refine af (aa (ae (vB (decide ((k_2:Int) < (l_1.length:Int)))) wz rfl (aj ?_)))
   refine af (ay rfl (aX hD_5) (au ?_))
   unfold qz at hc_8
   refine af (aA (af (aa (dI Cj rfl rfl (bC hD_5) rfl wz (bG rF DK rfl (.d (.agg (Rect.enc x_4))) rfl wz (dh 0 (.inl rfl) z45 rfl wz (fun n_12=>fD 0 il ft 0 rF rfl rfl [(vI x_4.X),(vI x_4.Y),(vI x_4.W),(vI x_4.H)] rfl wz (aj (aa (ae (vI s_7) wz rfl (aG Ej rfl 2 rfl wz (aC 0 0 il ft sz3 ag3 rfl rfl (vI x_4.W) rfl wz (aG Ar rfl 3 rfl wz (aC 0 0 il ft sz3 ag3 rfl rfl (vI x_4.H) rfl wz (ae (vI (w64 (x_4.W * x_4.H))) wz rfl (ae (vI (w64 (s_7 + (w64 (x_4.W * x_4.H))))) wz rfl (ae (vI (w64 (s_7 + (w64 (x_4.W * x_4.H))))) wz rfl (aj (aa (dY (bn hD_5 hn_6) wz rfl (ae (vI ((k_2 + 1:Nat):Int)) wz rfl (aj ?_))))))))))))))))))))))
   obtain rfl:=ah hc_8
   exact aU (k_2 + 1,l_3,(w64 (s_7 + (w64 (x_4.W * x_4.H))))) ⟨hL_9,aR hD_5⟩ (Nat.lt_succ_self _) rfl (aI rfl)
 ·rintro s_7 ho_ sl_ H_ hp_ hq_
  subst ho_
  refine aK _ hp_ hq_ (af (aa (ae (vI s_7) wz rfl (ae (vI s_7) wz rfl (aj ?_)))))
  obtain rfl:=ah hF
  exact aB (aP (.inr rfl) [(vI s_7)] ⟨rfl,trivial⟩ rfl rfl rfl)
theorem Bp {l_1:(List Rect)} {r:Int×Int} (hF:oM l_1=some r) :
  FnM Tryz.prog 77 [(vL Rect.enc l_1)] [] (.tup [(vI r.1),(vI r.2)]) []:=by
 refine FnM.of_wH ⟨Tryz.prog,13,[],[]⟩ rfl Tryz.func77 rfl rfl (Nat.le_of_ble_eq_true rfl) (by kernel_rfl) ?_
 unfold oM at hF
 refine af (aa (ae (vI 0) wz rfl (ae (vI 0) wz rfl (aj (af (af (aa (ae (vL Rect.enc l_1) wz rfl ?_))))))))
 obtain ⟨r_2,hr_3,hF⟩:=bind_some hF
 refine aF (uN hr_3) rfl hb151 rfl rfl rfl rfl wz (ae (vI r_2) wz rfl (aj (af (aa (ae (vI r_2) wz rfl (ae (vB (r_2 != 0)) wz rfl (aj ?_)))))))
 rcases ak hF with⟨hc_4,hF⟩ | ⟨hc_4,hF⟩
 ·refine ay rfl hc_4 (af (aa (ae (vI r_2) wz rfl (ae (vI 0) wz rfl (ae (vI r_2) wz rfl (aj ?_))))))
  obtain rfl:=ah hF
  exact aB (aP (.inr rfl) [(vI 0),(vI r_2)] ⟨rfl,⟨rfl,trivial⟩⟩ rfl rfl rfl)
 ·refine ax rfl hc_4 (au (af (aa (ae (vL Rect.enc l_1) wz rfl ?_))))
  obtain ⟨r_5,hr_6,hF⟩:=bind_some hF
  refine aF (yE hr_6) rfl hb69 rfl rfl rfl rfl wz ?_
  obtain ⟨r_7,hr_8,hF⟩:=bind_some hF
  refine aF (Bh hr_8) rfl hb68 rfl rfl rfl rfl wz (ae (vI r_7) wz rfl (ae (vI 0) wz rfl (aj ?_)))
  obtain rfl:=ah hF
  exact aB (aP (.inr rfl) [(vI r_7),(vI 0)] ⟨rfl,⟨rfl,trivial⟩⟩ rfl rfl rfl)
theorem DW {n_1:Int} {r:Bool} (hF:yG n_1=some r) :
  FnM Tryz.prog 312 [(vI n_1)] [] (vB r) []:=by
 refine FnM.of_wH ⟨Tryz.prog,9,[],[]⟩ rfl Tryz.func312 rfl rfl (Nat.le_of_ble_eq_true rfl) (by kernel_rfl) ?_
 unfold yG at hF
 refine af (aa (ae (vB false) wz rfl (aj (af ?_))))
 obtain ⟨v_2,h_3,hF⟩:=bind_some hF
 refine aD (β:=Unit) (fun _=>([(2,(vB v_2))]:List (Nat×V))) (fun _=>([]:Hp)) (fun _=>True) ?_ ?_
 ·refine aa (ae (vI n_1) wz rfl (ae (vB (decide (n_1≥0))) wz rfl ?_))
  rcases ak h_3 with⟨hc_4,h_3⟩ | ⟨hc_4,h_3⟩
  ·refine av rfl hc_4 wz (ae (vI n_1) wa rfl (ae (vB (decide (n_1≤4000))) wa rfl (ae (vB (decide (n_1≤4000))) wz rfl (ae (vB (decide (n_1≤4000))) wz rfl (aj ?_)))))
   obtain rfl:=ah h_3
   exact cu
  ·refine av rfl hc_4 wz (ai wa (ai wa (ae (vB false) wz rfl (ae (vB false) wz rfl (aj ?_)))))
   obtain rfl:=ah h_3
   exact cu
 ·rintro ⟨⟩ _ sl_ H_ hp_ hq_
  refine aK _ hp_ hq_ ?_
  obtain rfl:=ah hF
  exact aB (aP (.inr rfl) [(vB v_2)] ⟨rfl,trivial⟩ rfl rfl rfl)
theorem si {l_1:(List Int)} {r:Int} (hF:jd l_1=some r) :
  FnM Tryz.prog 264 [(vL eI l_1)] [] (vI r) []:=by
 refine FnM.of_wH ⟨Tryz.prog,30,[],[]⟩ rfl Tryz.func264 rfl rfl (Nat.le_of_ble_eq_true rfl) (by kernel_rfl) ?_
 unfold jd at hF
 refine af (aa (ae (vI 0) wz rfl (aj (af (af (aa (ae (vL eI l_1) wz rfl (bO vZ rfl wz (ae (vB (decide ((l_1.length:Int) > 100))) wz rfl (aj ?_))))))))))
 rcases ak hF with⟨hc_2,hF⟩ | ⟨hc_2,hF⟩
 ·refine ay rfl hc_2 (af (aa (ae (vI 2) wz rfl (aj ?_))))
  obtain rfl:=ah hF
  exact aB (aP (.inr rfl) [(vI 2)] ⟨rfl,trivial⟩ rfl rfl rfl)
 ·refine ax rfl hc_2 (au (af (af (aa (ae (vL eI l_1) wz rfl (bO vZ rfl wz (ae (vI 0) wz rfl (aj ?_))))))))
  obtain ⟨o_11,hj_12,hF⟩:=bind_some hF
  obtain ⟨hn_7,hj_12⟩:=aW hj_12
  refine aD (β:=(Unit)) (fun (s_8:Unit)=>([]:List (Nat×V))) (fun (s_8:Unit)=>([]:Hp)) (fun p=>o_11 = .go p) ?_ ?_
  ·refine aA (aV (β:=Nat×(List Int)×(Unit)) (fun p=>(fun (k_3:Nat) (l_4:List Int) (s_8:Unit)=>([(0,(vL eI l_1)),(8,(vL eI l_1)),(9,(vI (l_1.length:Int))),(10,(vI (k_3:Int)))]:List (Nat×V))) p.1 p.2.1 p.2.2) (fun p=>(fun (k_3:Nat) (l_4:List Int) (s_8:Unit)=>([]:Hp)) p.1 p.2.1 p.2.2) (fun p=>forR (fun k x s=>jy l_1 k x s) p.2.1 p.1 p.2.2=some o_11∧(l_1).drop p.1=p.2.1) (fun p=>p.2.1.length) (0,l_1,()) ⟨hj_12,rfl⟩ rfl (aI rfl) ?_)
   rintro ⟨k_3,l_4,s_8⟩ ⟨hL_10,hD_6⟩
   dsimp only at hL_10 hD_6
   cases l_4 with
   | nil =>
    obtain rfl:=ah hL_10
    refine af (aa (ae (vB (decide ((k_3:Int) < (l_1.length:Int)))) wz rfl (aj ?_)))
    refine af (ax rfl (drop_nil hD_6) (aS ?_))
    exact aO (s_8) rfl rfl (aI rfl)
   | cons x_5 l_4 =>
    obtain ⟨c_,hc_9,hL_10⟩:=bind_some hL_10
    refine af (aa (ae (vB (decide ((k_3:Int) < (l_1.length:Int)))) wz rfl (aj ?_)))
    refine af (ay rfl (aX hD_6) (au ?_))
    unfold jy at hc_9
    refine af (aA (af (aa (ae (vI (k_3:Int)) wz rfl (dI nM rfl rfl (bC hD_6) rfl wz (bG sz3 ag3 rfl (vI x_5) rfl wz (ae (vI (k_3:Int)) wz rfl (ae (vI x_5) wz rfl (aj (af (af (aa (ae (vI x_5) wz rfl ?_)))))))))))))
    obtain ⟨r_13,hr_14,hc_9⟩:=bind_some hc_9
    refine aF (DW hr_14) rfl hb312 rfl rfl rfl rfl wz (ae (vB (!r_13)) wz rfl (aj ?_))
    rcases ak hc_9 with⟨hc_15,hc_9⟩ | ⟨hc_15,hc_9⟩
    ·refine ay rfl hc_15 (af (aa (ae (vI 1) wz rfl (aj ?_))))
     obtain rfl:=ah hc_9
     obtain rfl:=ah hL_10
     obtain rfl:=ah hF
     exact aB (aP (.inr rfl) [(vI 1)] ⟨rfl,trivial⟩ rfl rfl rfl)
    ·refine ax rfl hc_15 (au (af ?_))
     obtain ⟨v_16,h_17,hc_9⟩:=bind_some hc_9
     refine aD (β:=Unit) (fun _=>([(0,(vL eI l_1)),(8,(vL eI l_1)),(9,(vI (l_1.length:Int))),(10,(vI (k_3:Int))),(28,(vB v_16))]:List (Nat×V))) (fun _=>([]:Hp)) (fun _=>True) ?_ ?_
     ·refine aa (ae (vI (k_3:Int)) wz rfl (ae (vB (decide ((k_3:Int) > 0))) wz rfl ?_))
      rcases ak h_17 with⟨hc_18,h_17⟩ | ⟨hc_18,h_17⟩
      ·refine av rfl hc_18 wz (ae (vI x_5) wa rfl (ae (vL eI l_1) wa rfl (ae (vI (k_3:Int)) wa rfl (ae (vI (w64 ((k_3:Int) - 1))) wa rfl ?_))))
       obtain ⟨y_19,hy_20,h_17⟩:=bind_some h_17
       refine dI nM rfl rfl hy_20 rfl wa (bG sz3 ag3 rfl (vI y_19) rfl wa (ae (vB (decide (x_5≤y_19))) wa rfl (ae (vB (decide (x_5≤y_19))) wz rfl (aj ?_))))
       obtain rfl:=ah h_17
       exact cu
      ·refine av rfl hc_18 wz (ai wa (ai wa (ai wa (ai wa (ai wa (ai wa (ai wa (ae (vB false) wz rfl (aj ?_)))))))))
       obtain rfl:=ah h_17
       exact cu
     ·rintro ⟨⟩ _ sl_ H_ hp_ hq_
      refine aK _ hp_ hq_ ?_
      rcases ak hc_9 with⟨hc_21,hc_9⟩ | ⟨hc_21,hc_9⟩
      ·refine ay rfl hc_21 (af (aa (ae (vI 7) wz rfl (aj ?_))))
       obtain rfl:=ah hc_9
       obtain rfl:=ah hL_10
       obtain rfl:=ah hF
       exact aB (aP (.inr rfl) [(vI 7)] ⟨rfl,trivial⟩ rfl rfl rfl)
      ·refine ax rfl hc_21 (au (aa (dY (bn hD_6 hn_7) wz rfl (ae (vI ((k_3 + 1:Nat):Int)) wz rfl (aj ?_)))))
       obtain rfl:=ah hc_9
       exact aU (k_3 + 1,l_4,()) ⟨hL_10,aR hD_6⟩ (Nat.lt_succ_self _) rfl (aI rfl)
  ·rintro s_8 ho_ sl_ H_ hp_ hq_
   subst ho_
   refine aK _ hp_ hq_ (af (aa (ae (vI 0) wz rfl (aj ?_))))
   obtain rfl:=ah hF
   exact aB (aP (.inr rfl) [(vI 0)] ⟨rfl,trivial⟩ rfl rfl rfl)
theorem qo {l_1:(List ByteArray)} {r:Int} (hF:iW l_1=some r) :
  FnM Tryz.prog 266 [(vL eS l_1)] [] (vI r) []:=by
 refine FnM.of_wH ⟨Tryz.prog,27,[],[]⟩ rfl Tryz.func266 rfl rfl (Nat.le_of_ble_eq_true rfl) (by kernel_rfl) ?_
 unfold iW at hF
 refine af (aa (ae (vI 0) wz rfl (aj (af (af (aa (ae (vL eS l_1) wz rfl (bO xu rfl wz (ae (vI 0) wz rfl (aj ?_))))))))))
 obtain ⟨o_10,hj_11,hF⟩:=bind_some hF
 obtain ⟨hn_6,hj_11⟩:=aW hj_11
 refine aD (β:=(Unit)) (fun (s_7:Unit)=>([]:List (Nat×V))) (fun (s_7:Unit)=>([]:Hp)) (fun p=>o_10 = .go p) ?_ ?_
 ·refine aA (aV (β:=Nat×(List ByteArray)×(Unit)) (fun p=>(fun (k_2:Nat) (l_3:List ByteArray) (s_7:Unit)=>([(0,(vL eS l_1)),(5,(vL eS l_1)),(6,(vI (l_1.length:Int))),(7,(vI (k_2:Int)))]:List (Nat×V))) p.1 p.2.1 p.2.2) (fun p=>(fun (k_2:Nat) (l_3:List ByteArray) (s_7:Unit)=>([]:Hp)) p.1 p.2.1 p.2.2) (fun p=>forR (fun k x s=>iK l_1 k x s) p.2.1 p.1 p.2.2=some o_10∧(l_1).drop p.1=p.2.1) (fun p=>p.2.1.length) (0,l_1,()) ⟨hj_11,rfl⟩ rfl (aI rfl) ?_)
  rintro ⟨k_2,l_3,s_7⟩ ⟨hL_9,hD_5⟩
  dsimp only at hL_9 hD_5
  cases l_3 with
  | nil =>
   obtain rfl:=ah hL_9
   refine af (aa (ae (vB (decide ((k_2:Int) < (l_1.length:Int)))) wz rfl (aj ?_)))
   refine af (ax rfl (drop_nil hD_5) (aS ?_))
   exact aO (s_7) rfl rfl (aI rfl)
  | cons x_4 l_3 =>
   obtain ⟨c_,hc_8,hL_9⟩:=bind_some hL_9
   refine af (aa (ae (vB (decide ((k_2:Int) < (l_1.length:Int)))) wz rfl (aj ?_)))
   refine af (ay rfl (aX hD_5) (au ?_))
   unfold iK at hc_8
   refine af (aA (af (aa (ae (vI (k_2:Int)) wz rfl (dI q8 rfl rfl (bC hD_5) rfl wz (bG sz9 ag9 rfl (vS x_4) rfl wz (ae (vI (k_2:Int)) wz rfl (ae (vS x_4) wz rfl (aj (af (af (aa (ae (vS x_4) wz rfl ?_)))))))))))))
   obtain ⟨r_12,hr_13,hc_8⟩:=bind_some hc_8
   refine aF (eB hr_13) rfl rV rfl rfl rfl rfl wz (ae (vB (!r_12)) wz rfl (aj ?_))
   rcases ak hc_8 with⟨hc_14,hc_8⟩ | ⟨hc_14,hc_8⟩
   ·refine ay rfl hc_14 (af (aa (ae (vI 5) wz rfl (aj ?_))))
    obtain rfl:=ah hc_8
    obtain rfl:=ah hL_9
    obtain rfl:=ah hF
    exact aB (aP (.inr rfl) [(vI 5)] ⟨rfl,trivial⟩ rfl rfl rfl)
   ·refine ax rfl hc_14 (au (af ?_))
    obtain ⟨v_15,h_16,hc_8⟩:=bind_some hc_8
    refine aD (β:=Unit) (fun _=>([(0,(vL eS l_1)),(5,(vL eS l_1)),(6,(vI (l_1.length:Int))),(7,(vI (k_2:Int))),(25,(vB v_15))]:List (Nat×V))) (fun _=>([]:Hp)) (fun _=>True) ?_ ?_
    ·refine aa (ae (vI (k_2:Int)) wz rfl (ae (vB (decide ((k_2:Int) > 0))) wz rfl ?_))
     rcases ak h_16 with⟨hc_17,h_16⟩ | ⟨hc_17,h_16⟩
     ·refine av rfl hc_17 wz (ae (vS x_4) wa rfl (ae (vL eS l_1) wa rfl (ae (vI (k_2:Int)) wa rfl (ae (vI (w64 ((k_2:Int) - 1))) wa rfl ?_))))
      obtain ⟨y_18,hy_19,h_16⟩:=bind_some h_16
      refine dI q8 rfl rfl hy_19 rfl wa (bG sz9 ag9 rfl (vS y_18) rfl wa (ae (vB (sLe x_4 y_18)) wa rfl (ae (vB (sLe x_4 y_18)) wz rfl (aj ?_))))
      obtain rfl:=ah h_16
      exact cu
     ·refine av rfl hc_17 wz (ai wa (ai wa (ai wa (ai wa (ai wa (ai wa (ai wa (ae (vB false) wz rfl (aj ?_)))))))))
      obtain rfl:=ah h_16
      exact cu
    ·rintro ⟨⟩ _ sl_ H_ hp_ hq_
     refine aK _ hp_ hq_ ?_
     rcases ak hc_8 with⟨hc_20,hc_8⟩ | ⟨hc_20,hc_8⟩
     ·refine ay rfl hc_20 (af (aa (ae (vI 7) wz rfl (aj ?_))))
      obtain rfl:=ah hc_8
      obtain rfl:=ah hL_9
      obtain rfl:=ah hF
      exact aB (aP (.inr rfl) [(vI 7)] ⟨rfl,trivial⟩ rfl rfl rfl)
     ·refine ax rfl hc_20 (au (aa (dY (bn hD_5 hn_6) wz rfl (ae (vI ((k_2 + 1:Nat):Int)) wz rfl (aj ?_)))))
      obtain rfl:=ah hc_8
      exact aU (k_2 + 1,l_3,()) ⟨hL_9,aR hD_5⟩ (Nat.lt_succ_self _) rfl (aI rfl)
 ·rintro s_7 ho_ sl_ H_ hp_ hq_
  subst ho_
  refine aK _ hp_ hq_ (af (aa (ae (vI 0) wz rfl (aj ?_))))
  obtain rfl:=ah hF
  exact aB (aP (.inr rfl) [(vI 0)] ⟨rfl,trivial⟩ rfl rfl rfl)
theorem uB {l_1:(List ByteArray)} {r:Int} (hF:iP l_1=some r) :
  FnM Tryz.prog 227 [(vL eS l_1)] [] (vI r) []:=by
 refine FnM.of_wH ⟨Tryz.prog,8,[],[]⟩ rfl Tryz.func227 rfl rfl (Nat.le_of_ble_eq_true rfl) (by kernel_rfl) ?_
 unfold iP at hF
 refine af (aa (ae (vI 0) wz rfl (aj (af (af (aa (ae (vL eS l_1) wz rfl (bO xu rfl wz (ae (vB (decide ((l_1.length:Int) > 20))) wz rfl (aj ?_))))))))))
 rcases ak hF with⟨hc_2,hF⟩ | ⟨hc_2,hF⟩
 ·refine ay rfl hc_2 (af (aa (ae (vI 2) wz rfl (aj ?_))))
  obtain rfl:=ah hF
  exact aB (aP (.inr rfl) [(vI 2)] ⟨rfl,trivial⟩ rfl rfl rfl)
 ·refine ax rfl hc_2 (au (af (aa (ae (vL eS l_1) wz rfl ?_))))
  obtain ⟨r_3,hr_4,hF⟩:=bind_some hF
  refine aF (qo hr_4) rfl hb266 rfl rfl rfl rfl wz (ae (vI r_3) wz rfl (aj ?_))
  obtain rfl:=ah hF
  exact aB (aP (.inr rfl) [(vI r_3)] ⟨rfl,trivial⟩ rfl rfl rfl)
end Go.Proofs.YtjhcehhmdmbleaaGreatDoor.Law

