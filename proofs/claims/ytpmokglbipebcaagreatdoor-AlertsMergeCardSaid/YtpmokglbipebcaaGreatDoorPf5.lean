/-
 The machine computes these plain functions (written by a program of ours).
-/
import Derived.Test.YtpmokglbipebcaaGreatDoorFacts
import Derived.Test.YtpmokglbipebcaaGreatDoorDefs
import Derived.Test.YtpmokglbipebcaaGreatDoorPf4
open Go Go.Eng Go.Proofs
namespace Go.Proofs.YtpmokglbipebcaaGreatDoor.Law
set_option maxRecDepth 100000
set_option linter.unusedVariables false
set_option maxHeartbeats 1000000
theorem pW {a_1:Alert} {b_2:Alert} {r:Bool} (hF:jA a_1 b_2=some r) :
  FnM Tryz.prog 17 [(.d (.agg (Alert.enc a_1))),(.d (.agg (Alert.enc b_2)))] [] (vB r) []:=by
 refine FnM.of_wH ⟨Tryz.prog,12,[],[]⟩ rfl Tryz.func17 rfl rfl (lb_ rfl) (by kernel_rfl) ?_
 unfold jA at hF
 refine af (aa (jN 0 (.inl rfl) [(vS a_1.Id),(vS a_1.Sender),(vI a_1.Kind),(vL eS a_1.Refs),(vI a_1.At),(vI a_1.Until),(vI a_1.Weight),(vL Rect.enc a_1.Areas),(vS a_1.Text)] rfl rfl wz (λn_3=>jN 0 (.inl rfl) [(vS b_2.Id),(vS b_2.Sender),(vI b_2.Kind),(vL eS b_2.Refs),(vI b_2.At),(vI b_2.Until),(vI b_2.Weight),(vL Rect.enc b_2.Areas),(vS b_2.Text)] rfl rfl wz (λn_4=>ae (vB false) wz rfl (aj (af (eu (aD 0 0 (.inr (by kernel_rfl)) (λ_ _ ag=>trivial) dM iw rfl rfl (.d (.agg (Alert.enc a_1))) rfl wz (fB (([a_1]:List Alert).map Alert.enc) iU Eh rfl rfl rfl rfl rfl wz ?_)))))))))
 obtain ⟨r_5,hr_6,hF⟩:=bind_some hF
 refine aH (o8 hr_6) rfl hb50 rfl rfl rfl rfl wz (aD 3 1 (.inr (by kernel_rfl)) (λ_ _ ag=>⟨.inl ⟨rfl,rfl⟩,trivial⟩) dM iw rfl rfl (.d (.agg (Alert.enc b_2))) rfl wz (fB (([b_2]:List Alert).map Alert.enc) iU Eh rfl rfl rfl rfl rfl wz ?_))
 obtain ⟨r_7,hr_8,hF⟩:=bind_some hF
 refine aH (o8 hr_8) rfl hb50 rfl rfl rfl rfl wz (ae (vB (sEq r_5 r_7)) wz rfl (ae (vB (sEq r_5 r_7)) wz rfl (aj ?_)))
 obtain rfl:=ah hF
 exact ay (aX (.inr rfl) [(vB (sEq r_5 r_7))] ⟨rfl,trivial⟩ rfl rfl rfl)
theorem iX {data_1:(List Alert)} {a_2:Int} {b_3:Int} {r:(List Alert)} (hF:dF data_1 a_2 b_3=some r) :
  FnM Tryz.prog 112 [(dV (au 0) 9 data_1),(vI a_2),(vI b_3),(.fn 46 [])] (([]:List Box)++gI 9 Alert.enc data_1) (.tup []) (([]:List Box).map some++gT data_1 (gB 9 Alert.enc r)):=by
 refine FnM.of_wHv ⟨Tryz.prog,53,[],[]⟩ rfl Tryz.func112 rfl rfl (lb_ rfl) (by kernel_rfl) ?_
 unfold dF at hF
 refine af (aa (ae (vI a_2) wz rfl (ae (vI (w64 (a_2+1))) wz rfl (ae (vI (w64 (a_2+1))) wz rfl (aj ?_)))))
 obtain ⟨o_13,hj_14,hF⟩:=bind_some hF
 obtain ⟨nq_51,hj_14⟩:=fE hj_14
 refine aI (β:=((List Alert)×Int)) (λ(s_10:(List Alert)×Int)=>([]:SL_)) (λ(s_10:(List Alert)×Int)=>([((au 0),gB 9 Alert.enc s_10.1)]:Hp)) (λp=>o_13 = .go p) ?_ ?_
 ·refine aB (bn (β:=Nat×((List Alert)×Int)) (λp=>(λ(k_5:Nat) (s_10:(List Alert)×Int)=>([(0,(dV (au 0) 9 s_10.1)),(1,(vI a_2)),(2,(vI b_3)),(3,(.fn 46 [])),(8,(vI s_10.2))]:SL_)) p.1 p.2) (λp=>(λ(k_5:Nat) (s_10:(List Alert)×Int)=>([((au 0),gB 9 Alert.enc s_10.1)]:Hp)) p.1 p.2) (λp=>iterN (λs=>dw b_3 a_2 s) p.1 p.2=some o_13) (λp=>p.1) (nq_51,(data_1,(w64 (a_2+1)))) hj_14 rfl (aK rfl) ?_)
  rintro ⟨k_5,s_10⟩ hL_12
  dsimp only at hL_12
  cases k_5 with
  | zero=>cases hL_12
  | succ k_5 =>
   obtain ⟨c_,hc_11,hL_12⟩:=bind_some hL_12
   unfold dw at hc_11
   refine af (af (aa (ae (vI s_10.2) wz rfl (ae (vI b_3) wz rfl (ae (vB (decide (s_10.2<b_3))) wz rfl (aj ?_))))))
   rcases ak hc_11 with⟨hc_15,hc_11⟩|⟨hc_15,hc_11⟩
   ·refine aA rfl hc_15 (av (af (aB (af (aa (ae (vI s_10.2) wz rfl (ae (vI s_10.2) wz rfl (aj ?_))))))))
    obtain ⟨o_24,hj_25,hc_11⟩:=bind_some hc_11
    obtain ⟨nq_50,hj_25⟩:=fE hj_25
    refine aI (β:=((List Alert)×Int)) (λ(s_21:(List Alert)×Int)=>([(0,(dV (au 0) 9 s_21.1)),(1,(vI a_2)),(2,(vI b_3)),(3,(.fn 46 [])),(8,(vI s_10.2))]:SL_)) (λ(s_21:(List Alert)×Int)=>([((au 0),gB 9 Alert.enc s_21.1)]:Hp)) (λp=>o_24 = .go p) ?_ ?_
    ·refine aB (bn (β:=Nat×((List Alert)×Int)) (λp=>(λ(k_16:Nat) (s_21:(List Alert)×Int)=>([(0,(dV (au 0) 9 s_21.1)),(1,(vI a_2)),(2,(vI b_3)),(3,(.fn 46 [])),(8,(vI s_10.2)),(9,(vI s_21.2))]:SL_)) p.1 p.2) (λp=>(λ(k_16:Nat) (s_21:(List Alert)×Int)=>([((au 0),gB 9 Alert.enc s_21.1)]:Hp)) p.1 p.2) (λp=>iterN (λs=>di a_2 s) p.1 p.2=some o_24) (λp=>p.1) (nq_50,(s_10.1,s_10.2)) hj_25 rfl (aK rfl) ?_)
     rintro ⟨k_16,s_21⟩ hL_23
     dsimp only at hL_23
     cases k_16 with
     | zero=>cases hL_23
     | succ k_16 =>
      obtain ⟨c_,hc_22,hL_23⟩:=bind_some hL_23
      unfold di at hc_22
      refine af (af ?_)
      obtain ⟨v_26,h_27,hc_22⟩:=bind_some hc_22
      refine aI (β:=Unit) (λ_=>([(0,(dV (au 0) 9 s_21.1)),(1,(vI a_2)),(2,(vI b_3)),(3,(.fn 46 [])),(8,(vI s_10.2)),(9,(vI s_21.2)),(34,(vB v_26))]:SL_)) (λ_=>([((au 0),gB 9 Alert.enc s_21.1)]:Hp)) (λ_=>True) ?_ ?_
      ·refine eu (ae (vI s_21.2) wz rfl (ae (vI a_2) wz rfl (ae (vB (decide (s_21.2>a_2))) wz rfl ?_)))
       rcases ak h_27 with⟨hc_28,h_27⟩|⟨hc_28,h_27⟩
       ·refine aC rfl hc_28 wz (ae (.fn 46 []) wa rfl (ae (dV (au 0) 9 s_21.1) wa rfl (ae (vI s_21.2) wa rfl ?_)))
        obtain ⟨_,hi_29,h_27⟩:=bind_some h_27
        refine jb iU rfl rfl (kC hi_29) (iy hi_29) wa ?_
        obtain ⟨e_30,hy_31,h_27⟩:=bind_some h_27
        refine kH 8 0 (.inr (by kernel_rfl)) (λ_ _ ag=>trivial) dM iw rfl rfl hy_31 (.d (.agg (Alert.enc e_30))) rfl wa (ae (dV (au 0) 9 s_21.1) wa rfl (ae (vI s_21.2) wa rfl (ae (vI (w64 (s_21.2-1))) wa rfl ?_)))
        obtain ⟨_,hi_32,h_27⟩:=bind_some h_27
        refine jb iU rfl rfl (kC hi_32) (iy hi_32) wa ?_
        obtain ⟨e_33,hy_34,h_27⟩:=bind_some h_27
        refine kH 13 0 (.inr (by kernel_rfl)) (λ_ _ ag=>⟨.inl ⟨rfl,rfl⟩,trivial⟩) dM iw rfl rfl hy_34 (.d (.agg (Alert.enc e_33))) rfl wa ?_
        obtain ⟨r_35,hr_36,h_27⟩:=bind_some h_27
        refine aH (oZ hr_36) rfl hb46 rfl rfl rfl rfl wa (ae (vB (decide (r_35<0))) wa rfl (ae (vB (decide (r_35<0))) wz rfl (aj ?_)))
        obtain rfl:=ah h_27
        exact cu
       ·refine aC rfl hc_28 wz (ai wa (ai wa (ai wa (ai wa (ai wa (ai wa (ai wa (ai wa (ai wa (ai wa (ai wa (ai wa (ae (vB false) wz rfl (aj ?_))))))))))))))
        obtain rfl:=ah h_27
        exact cu
      ·rintro ⟨⟩ _ sl_ H_ hp_ hq_
       refine aV _ hp_ hq_ ?_
       rcases ak hc_22 with⟨hc_37,hc_22⟩|⟨hc_37,hc_22⟩
       ·refine aA rfl hc_37 (av (af (aB (eu (ae (dV (au 0) 9 s_21.1) wz rfl (ae (vI s_21.2) wz rfl (ae (dV (au 0) 9 s_21.1) wz rfl (ae (vI s_21.2) wz rfl (ae (vI (w64 (s_21.2-1))) wz rfl (ae (dV (au 0) 9 s_21.1) wz rfl (ae (vI s_21.2) wz rfl (ae (vI (w64 (s_21.2-1))) wz rfl ?_))))))))))))
        obtain ⟨_,hi_38,hc_22⟩:=bind_some hc_22
        refine jb iU rfl rfl (kC hi_38) (iy hi_38) wz ?_
        obtain ⟨e_39,hy_40,hc_22⟩:=bind_some hc_22
        refine kH 9 0 (.inr (by kernel_rfl)) (λ_ _ ag=>trivial) dM iw rfl rfl hy_40 (.d (.agg (Alert.enc e_39))) rfl wz (ae (dV (au 0) 9 s_21.1) wz rfl (ae (vI s_21.2) wz rfl ?_))
        obtain ⟨_,hi_41,hc_22⟩:=bind_some hc_22
        refine jb iU rfl rfl (kC hi_41) (iy hi_41) wz ?_
        obtain ⟨e_42,hy_43,hc_22⟩:=bind_some hc_22
        refine kH 13 0 (.inr (by kernel_rfl)) (λ_ _ ag=>⟨.inl ⟨rfl,rfl⟩,trivial⟩) dM iw rfl rfl hy_43 (.d (.agg (Alert.enc e_42))) rfl wz ?_
        obtain ⟨_,hi_44,hc_22⟩:=bind_some hc_22
        refine jb iU rfl rfl (kC hi_44) (iy hi_44) wz ?_
        obtain ⟨e_45,hy_46,hc_22⟩:=bind_some hc_22
        refine kL 15 (.inr (by kernel_rfl)) (λ_ _ ag=>⟨.inr (.inr (by kernel_rfl)),⟨.inr (.inr (by kernel_rfl)),trivial⟩⟩) 0 dM rfl rfl hy_46 e_39 rfl wz (cK (v':=(dV (au 0) 9 (s_21.1.set (0+(s_21.2).toNat) e_39))) 0 rfl (bO (by simp)) (cK (v':=(dV (au 0) 9 (s_21.1.set (0+(s_21.2).toNat) e_39))) 37 rfl (bO (by simp)) (cK (v':=(dV (au 0) 9 (s_21.1.set (0+(s_21.2).toNat) e_39))) 39 rfl (bO (by simp)) (cK (v':=(dV (au 0) 9 (s_21.1.set (0+(s_21.2).toNat) e_39))) 42 rfl (bO (by simp)) (cK (v':=(dV (au 0) 9 (s_21.1.set (0+(s_21.2).toNat) e_39))) 47 rfl (bO (by simp)) ?_)))))
        obtain ⟨_,hi_47,hc_22⟩:=bind_some hc_22
        refine jb iU rfl rfl (kC hi_47) (iy hi_47) wz ?_
        obtain ⟨e_48,hy_49,hc_22⟩:=bind_some hc_22
        refine kL 17 (.inr (by kernel_rfl)) (λ_ _ ag=>⟨.inr (.inr (by kernel_rfl)),⟨.inr (.inr (by kernel_rfl)),⟨.inr (.inr (by kernel_rfl)),trivial⟩⟩⟩) 0 dM rfl rfl hy_49 e_42 rfl wz (cK (v':=(dV (au 0) 9 ((s_21.1.set (0+(s_21.2).toNat) e_39).set (0+((w64 (s_21.2-1))).toNat) e_42))) 0 rfl (bO (by simp)) (cK (v':=(dV (au 0) 9 ((s_21.1.set (0+(s_21.2).toNat) e_39).set (0+((w64 (s_21.2-1))).toNat) e_42))) 37 rfl (bO (by simp)) (cK (v':=(dV (au 0) 9 ((s_21.1.set (0+(s_21.2).toNat) e_39).set (0+((w64 (s_21.2-1))).toNat) e_42))) 39 rfl (bO (by simp)) (cK (v':=(dV (au 0) 9 ((s_21.1.set (0+(s_21.2).toNat) e_39).set (0+((w64 (s_21.2-1))).toNat) e_42))) 42 rfl (bO (by simp)) (cK (v':=(dV (au 0) 9 ((s_21.1.set (0+(s_21.2).toNat) e_39).set (0+((w64 (s_21.2-1))).toNat) e_42))) 47 rfl (bO (by simp)) (aj (aa (ae (vI s_21.2) wz rfl (ae (vI (w64 (s_21.2-1))) wz rfl (ae (vI (w64 (s_21.2-1))) wz rfl (aj ?_)))))))))))
        obtain rfl:=ah hc_22
        exact bC (k_16,(((s_21.1.set (0+(s_21.2).toNat) e_39).set (0+((w64 (s_21.2-1))).toNat) e_42),(w64 (s_21.2-1)))) hL_23 (ls_ _) rfl (aK rfl)
       ·refine ax rfl hc_37 (bE ?_)
        obtain rfl:=ah hc_22
        obtain rfl:=ah hL_23
        exact bN ((s_21.1,s_21.2)) rfl rfl (aK rfl)
    ·rintro s_21 ho_ sl_ H_ hp_ hq_
     subst ho_
     refine aV _ hp_ hq_ (aa (ae (vI s_10.2) wz rfl (ae (vI (w64 (s_10.2+1))) wz rfl (ae (vI (w64 (s_10.2+1))) wz rfl (aj ?_)))))
     obtain rfl:=ah hc_11
     exact bC (k_5,(s_21.1,(w64 (s_10.2+1)))) hL_12 (ls_ _) rfl (aK rfl)
   ·refine ax rfl hc_15 (bE ?_)
    obtain rfl:=ah hc_11
    obtain rfl:=ah hL_12
    exact bN ((s_10.1,s_10.2)) rfl rfl (aK rfl)
 ·rintro s_10 ho_ sl_ H_ hp_ hq_
  subst ho_
  show pF _ _ _ _ _ _ _ _
  obtain rfl:=ah hF
  exact si (H0:=([((au 0),gB 9 Alert.enc s_10.1)]:Hp)) (sl':=envS []) hq_ (vg (bs:=([]:List Box)) (os:=([]:List Box)) (xs:=data_1) (o:=gB 9 Alert.enc s_10.1) (.inl rfl) [] trivial rfl rfl rfl rfl rfl (by kernel_rfl) jG rfl)
theorem kr {data_1:(List Alert)} {a_2:Int} {b_3:Int} {limit_4:Int} {r:(List Alert)} (hF:eZ data_1 a_2 b_3 limit_4=some r) :
  FnM Tryz.prog 77 [(dV (au 0) 9 data_1),(vI a_2),(vI b_3),(vI limit_4),(.fn 46 [])] (([]:List Box)++gI 9 Alert.enc data_1) (.tup []) (([]:List Box).map some++gT data_1 (gB 9 Alert.enc r)):=by
 refine FnM.of_wHv ⟨Tryz.prog,148,[],[]⟩ rfl Tryz.func77 rfl rfl (lb_ rfl) (by kernel_rfl) ?_
 unfold eZ at hF
 refine af (aa (ae (vB true) wz rfl (aj (af (aa (ae (vB true) wz rfl (aj ?_)))))))
 obtain ⟨o_14,hj_15,hF⟩:=bind_some hF
 obtain ⟨nq_21,hj_15⟩:=fE hj_15
 refine aI (β:=(Unit)) (λ(s_11:Unit)=>([]:SL_)) (λ(s_11:Unit)=>([((au 0),gB 9 Alert.enc data_1)]:Hp)) (λp=>o_14 = .go p) ?_ ?_
 ·refine aB (bn (β:=Nat×(Unit)) (λp=>(λ(k_6:Nat) (s_11:Unit)=>([(0,(dV (au 0) 9 data_1)),(1,(vI a_2)),(2,(vI b_3)),(3,(vI limit_4)),(4,(.fn 46 [])),(10,(vB true)),(11,(vB true))]:SL_)) p.1 p.2) (λp=>(λ(k_6:Nat) (s_11:Unit)=>([((au 0),gB 9 Alert.enc data_1)]:Hp)) p.1 p.2) (λp=>iterN (λs=>dY b_3 a_2 data_1 limit_4 s) p.1 p.2=some o_14) (λp=>p.1) (nq_21,()) hj_15 rfl (aK rfl) ?_)
  rintro ⟨k_6,s_11⟩ hL_13
  dsimp only at hL_13
  cases k_6 with
  | zero=>cases hL_13
  | succ k_6 =>
   obtain ⟨c_,hc_12,hL_13⟩:=bind_some hL_13
   unfold dY at hc_12
   refine aB (af (aa (ae (vI b_3) wz rfl (ae (vI a_2) wz rfl (ae (vI (w64 (b_3-a_2))) wz rfl (ae (vI (w64 (b_3-a_2))) wz rfl (aj (af (af (aa (ae (vI (w64 (b_3-a_2))) wz rfl (ae (vB (decide ((w64 (b_3-a_2))<=12))) wz rfl (aj ?_)))))))))))))
   rcases ak hc_12 with⟨hc_16,hc_12⟩|⟨hc_16,hc_12⟩
   ·refine aA rfl hc_16 (af (aa (ae (dV (au 0) 9 data_1) wz rfl (ae (vI a_2) wz rfl (ae (vI b_3) wz rfl (ae (.fn 46 []) wz rfl ?_))))))
    obtain ⟨r_17,hr_18,hc_12⟩:=bind_some hc_12
    obtain ⟨_,hs_19,hc_12⟩:=bind_some hc_12
    replace hs_19:=lV hs_19
    refine mJ 0 [] 0 0 il ft (iX hr_18) rfl H9 rfl rfl rfl (by kernel_rfl) rfl (.inr (.inl rfl)) rfl (by kernel_rfl) (by kernel_rfl) (by kernel_rfl) (by kernel_rfl) rfl (by decide) (by kernel_rfl) jG (sV hs_19) wz ([((au 0),gB 9 Alert.enc r_17)]:Hp) (by kernel_rfl) (cK (v':=(dV (au 0) 9 r_17)) 0 rfl (bO hs_19.symm) (cK (v':=(dV (au 0) 9 r_17)) 26 rfl (bO hs_19.symm) (aj ?_)))
    obtain rfl:=ah hc_12
    obtain rfl:=ah hL_13
    obtain rfl:=ah hF
    exact ay (vg (bs:=([]:List Box)) (os:=([]:List Box)) (xs:=data_1) (o:=gB 9 Alert.enc r_17) (.inr rfl) [] trivial rfl rfl rfl rfl rfl (by kernel_rfl) jG rfl)
   ·refine ax rfl hc_16 (av (af (af (aa (ae (vI limit_4) wz rfl (ae (vB (limit_4==0)) wz rfl (aj ?_)))))))
    rcases ak hc_12 with⟨hc_20,hc_12⟩|⟨hc_20,hc_12⟩
    ·refine aA rfl hc_20 (af (aa (ae (dV (au 0) 9 data_1) wz rfl (ae (vI a_2) wz rfl (ae (vI b_3) wz rfl (ae (.fn 46 []) wz rfl ?_))))))
     cases hc_12
    ·refine ax rfl hc_20 (av (af (af (aa (ae (vB true) wz rfl (ae (vB false) wz rfl (aj (ax rfl rfl (av (af (aa (ae (dV (au 0) 9 data_1) wz rfl (ae (vI a_2) wz rfl (ae (vI b_3) wz rfl (ae (.fn 46 []) wz rfl ?_)))))))))))))))
     cases hc_12
 ·rintro s_11 ho_ sl_ H_ hp_ hq_
  subst ho_
  show pF _ _ _ _ _ _ _ _
  obtain rfl:=ah hF
  exact si (H0:=([((au 0),gB 9 Alert.enc data_1)]:Hp)) (sl':=envS []) hq_ (vg (bs:=([]:List Box)) (os:=([]:List Box)) (xs:=data_1) (o:=gB 9 Alert.enc data_1) (.inl rfl) [] trivial rfl rfl rfl rfl rfl (by kernel_rfl) jG rfl)
theorem jl {x_1:(List Alert)} {r:(List Alert)} (hF:bA x_1=some r) :
  FnM Tryz.prog 43 [(dV (au 0) 9 x_1),(.fn 46 [])] (([]:List Box)++gI 9 Alert.enc x_1) (.tup []) (([]:List Box).map some++gT x_1 (gB 9 Alert.enc r)):=by
 refine FnM.of_wHv ⟨Tryz.prog,14,[],[]⟩ rfl Tryz.func43 rfl rfl (lb_ rfl) (by kernel_rfl) ?_
 unfold bA at hF
 refine af (aa (ae (dV (au 0) 9 x_1) wz rfl (BM lK rfl wz (ae (vI (x_1.length:Int)) wz rfl (aj (aa (ae (dV (au 0) 9 x_1) wz rfl (ae (vI (x_1.length:Int)) wz rfl (ae (vI (x_1.length:Int)) wz rfl (yc un3 IX rfl wz ?_))))))))))
 obtain ⟨r_3,hr_4,hF⟩:=bind_some hF
 refine aH (mo hr_4) rfl hb78 rfl rfl rfl rfl wz (ae (.fn 46 []) wz rfl ?_)
 obtain ⟨r_5,hr_6,hF⟩:=bind_some hF
 obtain ⟨_,hs_7,hF⟩:=bind_some hF
 replace hs_7:=lV hs_7
 refine mJ 0 [] 0 0 il ft (kr hr_6) rfl hb77 rfl rfl rfl (by kernel_rfl) rfl (.inr (.inl rfl)) rfl (by kernel_rfl) (by kernel_rfl) (by kernel_rfl) (by kernel_rfl) rfl (by decide) (by kernel_rfl) jG (sV hs_7) wz ([((au 0),gB 9 Alert.enc r_5)]:Hp) (by kernel_rfl) (cK (v':=(dV (au 0) 9 r_5)) 0 rfl (bO hs_7.symm) (cK (v':=(dV (au 0) 9 r_5)) 5 rfl (bO hs_7.symm) (cK (v':=(dV (au 0) 9 r_5)) 7 rfl (bO hs_7.symm) (aj ?_))))
 show pF _ _ _ _ _ _ _ _
 obtain rfl:=ah hF
 exact vg (bs:=([]:List Box)) (os:=([]:List Box)) (xs:=x_1) (o:=gB 9 Alert.enc r_5) (.inl rfl) [] trivial rfl rfl rfl rfl rfl (by kernel_rfl) jG rfl
theorem xC {a_1:(List Alert)} {b_2:(List Alert)} {r:(List Alert)×Int} (hF:lJ a_1 b_2=some r) :
  FnM Tryz.prog 15 [(vL Alert.enc a_1),(vL Alert.enc b_2)] [] (.tup [(vL Alert.enc r.1),(vI r.2)]) []:=by
 refine FnM.of_wH ⟨Tryz.prog,41,[],[]⟩ rfl Tryz.func15 rfl rfl (lb_ rfl) (by kernel_rfl) ?_
 unfold lJ at hF
 refine af (aa (ae .nil wz rfl (ae (vI 0) wz rfl (aj (af (aa (ae (vL Alert.enc a_1) wz rfl ?_)))))))
 obtain ⟨r_3,hr_4,hF⟩:=bind_some hF
 refine Cj [] (gK hr_4) rfl hb8 rfl (by kernel_rfl) (by kernel_rfl) (by kernel_rfl) (by kernel_rfl) (by kernel_rfl) rfl (by decide) (by kernel_rfl) wz ([]:Hp) (λ_=>by kernel_rfl) (λn_6=>ae (gV n_6 9 r_3) wz rfl (aj (af (af (aa (ae (vL Alert.enc b_2) wz rfl (dA lK rfl wz (ae (vI 0) wz rfl (aj ?_)))))))))
 obtain ⟨o_17,hj_18,hF⟩:=bind_some hF
 obtain ⟨hn_11,hj_18⟩:=bv hj_18
 refine aI (β:=((List Alert))×Nm) (λp=>(λ(s_12:List Alert) (n_14:Nm)=>([(6,(gV n_14 9 s_12))]:SL_)) p.1 p.2) (λp=>(λ(s_12:List Alert) (n_14:Nm)=>([(n_14,gB 9 Alert.enc s_12)]:Hp)) p.1 p.2) (λp=>o_17 = .go p.1) ?_ ?_
 ·refine aB (bn (β:=Nat×(List Alert)×((List Alert))×Nm) (λp=>(λ(k_7:Nat) (l_8:List Alert) (s_12:List Alert) (n_14:Nm)=>([(6,(gV n_14 9 s_12)),(12,(vL Alert.enc b_2)),(13,(vI (b_2.length:Int))),(14,(vI (k_7:Int)))]:SL_)) p.1 p.2.1 p.2.2.1 p.2.2.2) (λp=>(λ(k_7:Nat) (l_8:List Alert) (s_12:List Alert) (n_14:Nm)=>([(n_14,gB 9 Alert.enc s_12)]:Hp)) p.1 p.2.1 p.2.2.1 p.2.2.2) (λp=>forR (λk x s=>gJ k x s) p.2.1 p.1 p.2.2.1=some o_17/\(b_2).drop p.1=p.2.1) (λp=>p.2.1.length) (0,b_2,r_3,n_6) ⟨hj_18,rfl⟩ rfl (aK rfl) ?_)
  rintro ⟨k_7,l_8,s_12,n_14⟩ ⟨hL_16,hD_10⟩
  dsimp only at hL_16 hD_10
  cases l_8 with
  | nil =>
   obtain rfl:=ah hL_16
   refine af (aa (ae (vB (decide ((k_7:Int)<(b_2.length:Int)))) wz rfl (aj ?_)))
   refine af (ax rfl (drop_nil hD_10) (bE ?_))
   exact bN (s_12,n_14) rfl rfl (aK rfl)
  | cons x_9 l_8 =>
   obtain ⟨c_,hc_15,hL_16⟩:=bind_some hL_16
   refine af (aa (ae (vB (decide ((k_7:Int)<(b_2.length:Int)))) wz rfl (aj ?_)))
   refine af (aA rfl (bP hD_10) (av ?_))
   unfold gJ at hc_15
   refine af (aB (af (aa (jk iU rfl rfl (dB hD_10) rfl wz (fA dM iw rfl (.d (.agg (Alert.enc x_9))) rfl wz (fP 0 (.inl rfl) z33 rfl wz (λn_19=>fU 0 il ft 1 dM rfl rfl [(vS x_9.Id),(vS x_9.Sender),(vI x_9.Kind),(vL eS x_9.Refs),(vI x_9.At),(vI x_9.Until),(vI x_9.Weight),(vL Rect.enc x_9.Areas),(vS x_9.Text)] rfl wz (aj (af (aa (ae (gV n_14 9 s_12) wz rfl (ae (.fn 49 [(.ref n_19 0 0)]) wz rfl ?_))))))))))))
   obtain ⟨r_20,hr_21,hc_15⟩:=bind_some hc_15
   refine mJ 0 [1] 0 0 il ft (je hr_21) rfl hb48 rfl rfl rfl (by kernel_rfl) rfl (.inl rfl) rfl (by kernel_rfl) (by kernel_rfl) (by kernel_rfl) (by kernel_rfl) rfl (by decide) (by kernel_rfl) jG (sV rfl) wz ([(n_14,gB 9 Alert.enc s_12),(n_19,some (.cells 9 [(vS x_9.Id),(vS x_9.Sender),(vI x_9.Kind),(vL eS x_9.Refs),(vI x_9.At),(vI x_9.Until),(vI x_9.Weight),(vL Rect.enc x_9.Areas),(vS x_9.Text)]))]:Hp) (by kernel_rfl) (ae (vI r_20) wz rfl (aj (af (aa (ae (vI r_20) wz rfl (ae (vB (decide (r_20<0))) wz rfl (aj ?_)))))))
   rcases ak hc_15 with⟨hc_22,hc_15⟩|⟨hc_22,hc_15⟩
   ·refine aA rfl hc_22 (aa (ae (gV n_14 9 s_12) wz rfl (aD 0 1 il ft dM iw rfl rfl (.d (.agg (Alert.enc x_9))) rfl wz (fB (([x_9]:List Alert).map Alert.enc) iU Eh rfl rfl rfl rfl rfl wz ?_))))
    obtain ⟨a_23,hz_24,hc_15⟩:=bind_some hc_15
    refine rQ 0 il ft (i:=0) vZ vZ dM z33 rfl (by decide) GN (by decide) (λ_=>rfl) rfl rfl rfl hz_24 wz (λn_25=>ae (gV n_25 9 a_23) wz rfl (aj (aa (gN (bU hD_10 hn_11) wz rfl (ae (vI ((k_7+1:Nat):Int)) wz rfl (aj ?_))))))
    obtain rfl:=ah hc_15
    exact bC (k_7+1,l_8,a_23,n_25) ⟨hL_16,aY hD_10⟩ (ls_ _) rfl (aK rfl)
   ·refine ax rfl hc_22 (af (eu (ae (gV n_14 9 s_12) wz rfl (ae (vI r_20) wz rfl ?_))))
    obtain ⟨_,hi_26,hc_15⟩:=bind_some hc_15
    refine Et iU rfl rfl (kC hi_26) (iy hi_26) wz ?_
    obtain ⟨e_27,hy_28,hc_15⟩:=bind_some hc_15
    refine kH 3 0 (.inr (by kernel_rfl)) (λ_ _ ag=>trivial) dM iw rfl rfl hy_28 (.d (.agg (Alert.enc e_27))) rfl wz (aD 4 1 (.inr (by kernel_rfl)) (λ_ _ ag=>⟨.inl ⟨rfl,rfl⟩,trivial⟩) dM iw rfl rfl (.d (.agg (Alert.enc x_9))) rfl wz ?_)
    obtain ⟨r_29,hr_30,hc_15⟩:=bind_some hc_15
    refine aH (pW hr_30) rfl hb17 rfl rfl rfl rfl wz (ae (vB (!r_29)) wz rfl (aj ?_))
    rcases ak hc_15 with⟨hc_31,hc_15⟩|⟨hc_31,hc_15⟩
    ·refine aA rfl hc_31 (af (aa (ae .nil wz rfl (ae (vI 13) wz rfl (aj ?_)))))
     obtain rfl:=ah hc_15
     obtain rfl:=ah hL_16
     obtain rfl:=ah hF
     exact ay (aX (.inr rfl) [.nil,(vI 13)] ⟨rfl,⟨rfl,trivial⟩⟩ rfl rfl rfl)
    ·refine ax rfl hc_31 (av (aa (gN (bU hD_10 hn_11) wz rfl (ae (vI ((k_7+1:Nat):Int)) wz rfl (aj ?_)))))
     obtain rfl:=ah hc_15
     exact bC (k_7+1,l_8,s_12,n_14) ⟨hL_16,aY hD_10⟩ (ls_ _) rfl (aK rfl)
 ·rintro ⟨s_12,n_14⟩ ho_ sl_ H_ hp_ hq_
  subst ho_
  refine aV _ hp_ hq_ (af (aa (ae (gV n_14 9 s_12) wz rfl ?_)))
  obtain ⟨r_32,hr_33,hF⟩:=bind_some hF
  obtain ⟨_,hs_34,hF⟩:=bind_some hF
  replace hs_34:=lV hs_34
  refine mJ 0 [] 0 0 il ft (jl hr_33) rfl hb43 rfl rfl rfl (by kernel_rfl) rfl (.inl rfl) rfl (by kernel_rfl) (by kernel_rfl) (by kernel_rfl) (by kernel_rfl) rfl (by decide) (by kernel_rfl) jG (sV hs_34) wz ([(n_14,gB 9 Alert.enc r_32)]:Hp) (by kernel_rfl) (cK (v':=(gV n_14 9 r_32)) 35 rfl (dH hs_34.symm) (cK (v':=(gV n_14 9 r_32)) 6 rfl (dH hs_34.symm) (aj (af (af (aa (ae (gV n_14 9 r_32) wz rfl (yx lK rfl wz (ae (vB (decide ((r_32.length:Int)>300))) wz rfl (aj ?_))))))))))
  rcases ak hF with⟨hc_35,hF⟩|⟨hc_35,hF⟩
  ·refine aA rfl hc_35 (af (aa (ae .nil wz rfl (ae (vI 2) wz rfl (aj ?_)))))
   obtain rfl:=ah hF
   exact ay (aX (.inr rfl) [.nil,(vI 2)] ⟨rfl,⟨rfl,trivial⟩⟩ rfl rfl rfl)
  ·refine ax rfl hc_35 (av (af (aa (ae (gV n_14 9 r_32) wz rfl (ae (gV n_14 9 r_32) wz rfl (ae (vI 0) wz rfl (aj (jq 0 rfl (fC 4 0 rfl rfl (fC 6 0 rfl rfl (fC 35 0 rfl rfl (fC 37 0 rfl rfl (fC 40 0 rfl rfl ?_)))))))))))))
   obtain rfl:=ah hF
   exact ay (aX (.inr rfl) [(vL Alert.enc r_32),(vI 0)] ⟨rfl,⟨rfl,trivial⟩⟩ rfl rfl rfl)
theorem fq {s1_1:(List Alert)} {s2_2:(List Alert)} {r:Bool} (hF:aM s1_1 s2_2=some r) :
  FnM Tryz.prog 16 [(vL Alert.enc s1_1),(vL Alert.enc s2_2),(.fn 17 [])] [] (vB r) []:=by
 refine FnM.of_wH ⟨Tryz.prog,32,[],[]⟩ rfl Tryz.func16 rfl rfl (lb_ rfl) (by kernel_rfl) ?_
 unfold aM at hF
 refine af (aa (ae (vB false) wz rfl (aj (af (af (aa (ae (vL Alert.enc s1_1) wz rfl (dA lK rfl wz (ae (vL Alert.enc s2_2) wz rfl (dA lK rfl wz (ae (vB ((s1_1.length:Int) != (s2_2.length:Int))) wz rfl (aj ?_))))))))))))
 rcases ak hF with⟨hc_4,hF⟩|⟨hc_4,hF⟩
 ·refine aA rfl hc_4 (af (aa (ae (vB false) wz rfl (aj ?_))))
  obtain rfl:=ah hF
  exact ay (aX (.inr rfl) [(vB false)] ⟨rfl,trivial⟩ rfl rfl rfl)
 ·refine ax rfl hc_4 (av (af (af (aa (ae (vL Alert.enc s1_1) wz rfl (dA lK rfl wz (ae (vI 0) wz rfl (aj ?_))))))))
  obtain ⟨o_13,hj_14,hF⟩:=bind_some hF
  obtain ⟨hn_9,hj_14⟩:=bv hj_14
  refine aI (β:=(Unit)) (λ(s_10:Unit)=>([]:SL_)) (λ(s_10:Unit)=>([]:Hp)) (λp=>o_13 = .go p) ?_ ?_
  ·refine aB (bn (β:=Nat×(List Alert)×(Unit)) (λp=>(λ(k_5:Nat) (l_6:List Alert) (s_10:Unit)=>([(1,(vL Alert.enc s2_2)),(2,(.fn 17 [])),(15,(vL Alert.enc s1_1)),(16,(vI (s1_1.length:Int))),(17,(vI (k_5:Int)))]:SL_)) p.1 p.2.1 p.2.2) (λp=>(λ(k_5:Nat) (l_6:List Alert) (s_10:Unit)=>([]:Hp)) p.1 p.2.1 p.2.2) (λp=>forR (λk x s=>aL s2_2 k x s) p.2.1 p.1 p.2.2=some o_13/\(s1_1).drop p.1=p.2.1) (λp=>p.2.1.length) (0,s1_1,()) ⟨hj_14,rfl⟩ rfl (aK rfl) ?_)
   rintro ⟨k_5,l_6,s_10⟩ ⟨hL_12,hD_8⟩
   dsimp only at hL_12 hD_8
   cases l_6 with
   | nil =>
    obtain rfl:=ah hL_12
    refine af (aa (ae (vB (decide ((k_5:Int)<(s1_1.length:Int)))) wz rfl (aj ?_)))
    refine af (ax rfl (drop_nil hD_8) (bE ?_))
    exact bN (s_10) rfl rfl (aK rfl)
   | cons x_7 l_6 =>
    obtain ⟨c_,hc_11,hL_12⟩:=bind_some hL_12
    refine af (aa (ae (vB (decide ((k_5:Int)<(s1_1.length:Int)))) wz rfl (aj ?_)))
    refine af (aA rfl (bP hD_8) (av ?_))
    unfold aL at hc_11
    refine af (aB (af (aa (ae (vI (k_5:Int)) wz rfl (jk iU rfl rfl (dB hD_8) rfl wz (fA dM iw rfl (.d (.agg (Alert.enc x_7))) rfl wz (fP 0 (.inl rfl) z33 rfl wz (λn_15=>ae (vI (k_5:Int)) wz rfl (fU 0 il ft 0 dM rfl rfl [(vS x_7.Id),(vS x_7.Sender),(vI x_7.Kind),(vL eS x_7.Refs),(vI x_7.At),(vI x_7.Until),(vI x_7.Weight),(vL Rect.enc x_7.Areas),(vS x_7.Text)] rfl wz (aj (af (aa (ae (vL Alert.enc s2_2) wz rfl (ae (vI (k_5:Int)) wz rfl ?_))))))))))))))
    obtain ⟨y_16,hy_17,hc_11⟩:=bind_some hc_11
    refine jk iU rfl rfl hy_17 rfl wz (fA dM iw rfl (.d (.agg (Alert.enc y_16))) rfl wz (fP 0 (.inl rfl) z33 rfl wz (λn_18=>fU 0 il ft 1 dM rfl rfl [(vS y_16.Id),(vS y_16.Sender),(vI y_16.Kind),(vL eS y_16.Refs),(vI y_16.At),(vI y_16.Until),(vI y_16.Weight),(vL Rect.enc y_16.Areas),(vS y_16.Text)] rfl wz (aj (af (aa (ae (.fn 17 []) wz rfl (aD 0 0 il ft dM iw rfl rfl (.d (.agg (Alert.enc x_7))) rfl wz (aD 0 1 il ft dM iw rfl rfl (.d (.agg (Alert.enc y_16))) rfl wz ?_)))))))))
    obtain ⟨r_19,hr_20,hc_11⟩:=bind_some hc_11
    refine aH (pW hr_20) rfl hb17 rfl rfl rfl rfl wz (ae (vB (!r_19)) wz rfl (aj ?_))
    rcases ak hc_11 with⟨hc_21,hc_11⟩|⟨hc_21,hc_11⟩
    ·refine aA rfl hc_21 (af (aa (ae (vB false) wz rfl (aj ?_))))
     obtain rfl:=ah hc_11
     obtain rfl:=ah hL_12
     obtain rfl:=ah hF
     exact ay (aX (.inr rfl) [(vB false)] ⟨rfl,trivial⟩ rfl rfl rfl)
    ·refine ax rfl hc_21 (av (aa (gN (bU hD_8 hn_9) wz rfl (ae (vI ((k_5+1:Nat):Int)) wz rfl (aj ?_)))))
     obtain rfl:=ah hc_11
     exact bC (k_5+1,l_6,()) ⟨hL_12,aY hD_8⟩ (ls_ _) rfl (aK rfl)
  ·rintro s_10 ho_ sl_ H_ hp_ hq_
   subst ho_
   refine aV _ hp_ hq_ (af (aa (ae (vB true) wz rfl (aj ?_))))
   obtain rfl:=ah hF
   exact ay (aX (.inr rfl) [(vB true)] ⟨rfl,trivial⟩ rfl rfl rfl)
theorem sQ {l_1:(List Post)} {r:Int} (hF:iQ l_1=some r) :
  FnM Tryz.prog 132 [(vL Post.enc l_1)] [] (vI r) []:=by
 refine FnM.of_wH ⟨Tryz.prog,44,[],[]⟩ rfl Tryz.func132 rfl rfl (lb_ rfl) (by kernel_rfl) ?_
 unfold iQ at hF
 refine af (aa (ae (vI 0) wz rfl (aj (af (af (aa (ae (vL Post.enc l_1) wz rfl (dA un124 rfl wz (ae (vB (decide ((l_1.length:Int)>500))) wz rfl (aj ?_))))))))))
 rcases ak hF with⟨hc_2,hF⟩|⟨hc_2,hF⟩
 ·refine aA rfl hc_2 (af (aa (ae (vI 2) wz rfl (aj ?_))))
  obtain rfl:=ah hF
  exact ay (aX (.inr rfl) [(vI 2)] ⟨rfl,trivial⟩ rfl rfl rfl)
 ·refine ax rfl hc_2 (av (af (af (aa (ae (vL Post.enc l_1) wz rfl (dA un124 rfl wz (ae (vI 0) wz rfl (aj ?_))))))))
  obtain ⟨o_11,hj_12,hF⟩:=bind_some hF
  obtain ⟨hn_7,hj_12⟩:=bv hj_12
  refine aI (β:=(Unit)) (λ(s_8:Unit)=>([]:SL_)) (λ(s_8:Unit)=>([]:Hp)) (λp=>o_11 = .go p) ?_ ?_
  ·refine aB (bn (β:=Nat×(List Post)×(Unit)) (λp=>(λ(k_3:Nat) (l_4:List Post) (s_8:Unit)=>([(0,(vL Post.enc l_1)),(8,(vL Post.enc l_1)),(9,(vI (l_1.length:Int))),(10,(vI (k_3:Int)))]:SL_)) p.1 p.2.1 p.2.2) (λp=>(λ(k_3:Nat) (l_4:List Post) (s_8:Unit)=>([]:Hp)) p.1 p.2.1 p.2.2) (λp=>forR (λk x s=>gM l_1 k x s) p.2.1 p.1 p.2.2=some o_11/\(l_1).drop p.1=p.2.1) (λp=>p.2.1.length) (0,l_1,()) ⟨hj_12,rfl⟩ rfl (aK rfl) ?_)
   rintro ⟨k_3,l_4,s_8⟩ ⟨hL_10,hD_6⟩
   dsimp only at hL_10 hD_6
   cases l_4 with
   | nil =>
    obtain rfl:=ah hL_10
    refine af (aa (ae (vB (decide ((k_3:Int)<(l_1.length:Int)))) wz rfl (aj ?_)))
    refine af (ax rfl (drop_nil hD_6) (bE ?_))
    exact bN (s_8) rfl rfl (aK rfl)
   | cons x_5 l_4 =>
    obtain ⟨c_,hc_9,hL_10⟩:=bind_some hL_10
    refine af (aa (ae (vB (decide ((k_3:Int)<(l_1.length:Int)))) wz rfl (aj ?_)))
    refine af (aA rfl (bP hD_6) (av ?_))
    unfold gM at hc_9
    refine af (aB (af (aa (ae (vI (k_3:Int)) wz rfl (jk IW rfl rfl (dB hD_6) rfl wz (fA sz81 ag81 rfl (.d (.agg (Post.enc x_5))) rfl wz (fP 0 (.inl rfl) z81 rfl wz (λn_13=>ae (vI (k_3:Int)) wz rfl (fU 0 il ft 0 sz81 rfl rfl [(vS x_5.Player),(vI x_5.X),(vI x_5.Y)] rfl wz (aj (aB (af (aa (aF Fu rfl 0 rfl wz (aD 0 0 il ft sz9 ag9 rfl rfl (vS x_5.Player) rfl wz ?_)))))))))))))))
    obtain ⟨r_14,hr_15,hc_9⟩:=bind_some hc_9
    refine aH (nN hr_15) rfl hb87 rfl rfl rfl rfl wz (ae (vB (!r_14)) wz rfl (ae (vB (!r_14)) wz rfl (aj ?_)))
    rcases ak hc_9 with⟨hc_16,hc_9⟩|⟨hc_16,hc_9⟩
    ·refine aA rfl hc_16 (af (aa (ae (vI 5) wz rfl (aj ?_))))
     obtain rfl:=ah hc_9
     obtain rfl:=ah hL_10
     obtain rfl:=ah hF
     exact ay (aX (.inr rfl) [(vI 5)] ⟨rfl,trivial⟩ rfl rfl rfl)
    ·refine ax rfl hc_16 (af ?_)
     obtain ⟨v_17,h_18,hc_9⟩:=bind_some hc_9
     refine aI (β:=Unit) (λ_=>([(0,(vL Post.enc l_1)),(3,(vI (k_3:Int))),(4,(.ref n_13 0 0)),(8,(vL Post.enc l_1)),(9,(vI (l_1.length:Int))),(10,(vI (k_3:Int))),(20,(vB v_17))]:SL_)) (λ_=>([(n_13,some (.cells 3 [(vS x_5.Player),(vI x_5.X),(vI x_5.Y)]))]:Hp)) (λ_=>True) ?_ ?_
     ·refine aa (aF EO rfl 1 rfl wz (aD 0 0 il ft sz3 ag3 rfl rfl (vI x_5.X) rfl wz ?_))
      obtain ⟨r_19,hr_20,h_18⟩:=bind_some h_18
      refine aH (fe hr_20) rfl BF rfl rfl rfl rfl wz ?_
      rcases ak h_18 with⟨hc_21,h_18⟩|⟨hc_21,h_18⟩
      ·refine aC rfl hc_21 wz (ai wa (ai wa (ai wa (ae (vB true) wz rfl (ae (vB true) wz rfl (aj ?_))))))
       obtain rfl:=ah h_18
       exact cu
      ·refine aC rfl hc_21 wz (aF Ex rfl 2 rfl wa (aD 0 0 il ft sz3 ag3 rfl rfl (vI x_5.Y) rfl wa ?_))
       obtain ⟨r_22,hr_23,h_18⟩:=bind_some h_18
       refine aH (fe hr_23) rfl BF rfl rfl rfl rfl wa (ae (vB r_22) wz rfl (ae (vB r_22) wz rfl (aj ?_)))
       obtain rfl:=ah h_18
       exact cu
     ·rintro ⟨⟩ _ sl_ H_ hp_ hq_
      refine aV _ hp_ hq_ ?_
      rcases ak hc_9 with⟨hc_24,hc_9⟩|⟨hc_24,hc_9⟩
      ·refine aA rfl hc_24 (af (aa (ae (vI 1) wz rfl (aj ?_))))
       obtain rfl:=ah hc_9
       obtain rfl:=ah hL_10
       obtain rfl:=ah hF
       exact ay (aX (.inr rfl) [(vI 1)] ⟨rfl,trivial⟩ rfl rfl rfl)
      ·refine ax rfl hc_24 (af ?_)
       obtain ⟨v_25,h_26,hc_9⟩:=bind_some hc_9
       refine aI (β:=Unit) (λ_=>([(0,(vL Post.enc l_1)),(8,(vL Post.enc l_1)),(9,(vI (l_1.length:Int))),(10,(vI (k_3:Int))),(29,(vB v_25))]:SL_)) (λ_=>([(n_13,some (.cells 3 [(vS x_5.Player),(vI x_5.X),(vI x_5.Y)]))]:Hp)) (λ_=>True) ?_ ?_
       ·refine eu (ae (vI (k_3:Int)) wz rfl (ae (vB (decide ((k_3:Int)>0))) wz rfl ?_))
        rcases ak h_26 with⟨hc_27,h_26⟩|⟨hc_27,h_26⟩
        ·refine aC rfl hc_27 wz (aF Fu rfl 0 rfl wa (aD 4 0 (.inr (by kernel_rfl)) (λ_ _ ag=>trivial) sz9 ag9 rfl rfl (vS x_5.Player) rfl wa (ae (vL Post.enc l_1) wa rfl (ae (vI (k_3:Int)) wa rfl (ae (vI (w64 ((k_3:Int)-1))) wa rfl ?_)))))
         obtain ⟨y_28,hy_29,h_26⟩:=bind_some h_26
         refine jk IW rfl rfl hy_29 rfl wa (h_fac Fu rfl [.str y_28.Player,.int .i64 y_28.X,.int .i64 y_28.Y] rfl rfl wa (fA sz9 ag9 rfl (vS y_28.Player) rfl wa (ae (vB (sLe x_5.Player y_28.Player)) wa rfl (ae (vB (sLe x_5.Player y_28.Player)) wz rfl (ae (vB (sLe x_5.Player y_28.Player)) wz rfl (aj ?_))))))
         obtain rfl:=ah h_26
         exact cu
        ·refine aC rfl hc_27 wz (ai wa (ai wa (ai wa (ai wa (ai wa (ai wa (ai wa (ai wa (ai wa (ae (vB false) wz rfl (ae (vB false) wz rfl (aj ?_))))))))))))
         obtain rfl:=ah h_26
         exact cu
       ·rintro ⟨⟩ _ sl_ H_ hp_ hq_
        refine aV _ hp_ hq_ ?_
        rcases ak hc_9 with⟨hc_30,hc_9⟩|⟨hc_30,hc_9⟩
        ·refine aA rfl hc_30 (af (aa (ae (vI 7) wz rfl (aj ?_))))
         obtain rfl:=ah hc_9
         obtain rfl:=ah hL_10
         obtain rfl:=ah hF
         exact ay (aX (.inr rfl) [(vI 7)] ⟨rfl,trivial⟩ rfl rfl rfl)
        ·refine ax rfl hc_30 (av (aa (gN (bU hD_6 hn_7) wz rfl (ae (vI ((k_3+1:Nat):Int)) wz rfl (aj ?_)))))
         obtain rfl:=ah hc_9
         exact bC (k_3+1,l_4,()) ⟨hL_10,aY hD_6⟩ (ls_ _) rfl (aK rfl)
  ·rintro s_8 ho_ sl_ H_ hp_ hq_
   subst ho_
   refine aV _ hp_ hq_ (af (aa (ae (vI 0) wz rfl (aj ?_))))
   obtain rfl:=ah hF
   exact ay (aX (.inr rfl) [(vI 0)] ⟨rfl,trivial⟩ rfl rfl rfl)
theorem tX {l_1:(List Alert)} {posts_2:(List Post)} {r:Int} (hF:ji l_1 posts_2=some r) :
  FnM Tryz.prog 95 [(vL Alert.enc l_1),(vL Post.enc posts_2)] [] (vI r) []:=by
 refine FnM.of_wH ⟨Tryz.prog,13,[],[]⟩ rfl Tryz.func95 rfl rfl (lb_ rfl) (by kernel_rfl) ?_
 unfold ji at hF
 refine af (aa (ae (vI 0) wz rfl (aj (af (af (aa (ae (vL Alert.enc l_1) wz rfl ?_)))))))
 obtain ⟨r_3,hr_4,hF⟩:=bind_some hF
 refine aH (jR hr_4) rfl hb13 rfl rfl rfl rfl wz (ae (vI r_3) wz rfl (aj (af (aa (ae (vI r_3) wz rfl (ae (vB (r_3 != 0)) wz rfl (aj ?_)))))))
 rcases ak hF with⟨hc_5,hF⟩|⟨hc_5,hF⟩
 ·refine aA rfl hc_5 (af (aa (ae (vI r_3) wz rfl (ae (vI r_3) wz rfl (aj ?_)))))
  obtain rfl:=ah hF
  exact ay (aX (.inr rfl) [(vI r_3)] ⟨rfl,trivial⟩ rfl rfl rfl)
 ·refine ax rfl hc_5 (av (af (aa (ae (vL Post.enc posts_2) wz rfl ?_))))
  obtain ⟨r_6,hr_7,hF⟩:=bind_some hF
  refine aH (sQ hr_7) rfl hb132 rfl rfl rfl rfl wz (ae (vI r_6) wz rfl (aj ?_))
  obtain rfl:=ah hF
  exact ay (aX (.inr rfl) [(vI r_6)] ⟨rfl,trivial⟩ rfl rfl rfl)
theorem uo {r_1:Rect} {p_2:Post} {r:Bool} (hF:nz r_1 p_2=some r) :
  FnM Tryz.prog 134 [(.d (.agg (Rect.enc r_1))),(.ref (au 0) 0 0)] [(.cells 3 [(vS p_2.Player),(vI p_2.X),(vI p_2.Y)])] (vB r) [some (.cells 3 [(vS p_2.Player),(vI p_2.X),(vI p_2.Y)])]:=by
 refine FnM.of_wH ⟨Tryz.prog,36,[],[]⟩ rfl Tryz.func134 rfl rfl (lb_ rfl) (by kernel_rfl) ?_
 unfold nz at hF
 refine af (aa (jN 0 (.inl rfl) [(vI r_1.X),(vI r_1.Y),(vI r_1.W),(vI r_1.H)] rfl rfl wz (λn_3=>ae (vB false) wz rfl (aj (af ?_)))))
 obtain ⟨v_4,h_5,hF⟩:=bind_some hF
 refine aI (β:=Unit) (λ_=>([(3,(vB v_4))]:SL_)) (λ_=>([((au 0),some (.cells 3 [(vS p_2.Player),(vI p_2.X),(vI p_2.Y)])),(n_3,some (.cells 4 [(vI r_1.X),(vI r_1.Y),(vI r_1.W),(vI r_1.H)]))]:Hp)) (λ_=>True) ?_ ?_
 ·refine aa (aF rR rfl 0 rfl wz (aD 0 1 il ft sz3 ag3 rfl rfl (vI r_1.X) rfl wz (aF EO rfl 1 rfl wz (aD 0 0 il ft sz3 ag3 rfl rfl (vI p_2.X) rfl wz (ae (vB (decide (r_1.X<=p_2.X))) wz rfl ?_)))))
  rcases ak h_5 with⟨hc_6,h_5⟩|⟨hc_6,h_5⟩
  ·refine aC rfl hc_6 wz (aF EO rfl 1 rfl wa (aD 0 0 il ft sz3 ag3 rfl rfl (vI p_2.X) rfl wa (aF rR rfl 0 rfl wa (aD 0 1 il ft sz3 ag3 rfl rfl (vI r_1.X) rfl wa (aF yY rfl 2 rfl wa (aD 0 1 il ft sz3 ag3 rfl rfl (vI r_1.W) rfl wa (ae (vI (w64 (r_1.X+r_1.W))) wa rfl (ae (vB (decide (p_2.X<(w64 (r_1.X+r_1.W))))) wa rfl (ae (vB (decide (p_2.X<(w64 (r_1.X+r_1.W))))) wz rfl ?_)))))))))
   rcases ak h_5 with⟨hc_7,h_5⟩|⟨hc_7,h_5⟩
   ·refine aC rfl hc_7 wz (aF rC rfl 1 rfl wa (aD 0 1 il ft sz3 ag3 rfl rfl (vI r_1.Y) rfl wa (aF Ex rfl 2 rfl wa (aD 0 0 il ft sz3 ag3 rfl rfl (vI p_2.Y) rfl wa (ae (vB (decide (r_1.Y<=p_2.Y))) wa rfl (ae (vB (decide (r_1.Y<=p_2.Y))) wz rfl ?_))))))
    rcases ak h_5 with⟨hc_8,h_5⟩|⟨hc_8,h_5⟩
    ·refine aC rfl hc_8 wz (aF Ex rfl 2 rfl wa (aD 0 0 il ft sz3 ag3 rfl rfl (vI p_2.Y) rfl wa (aF rC rfl 1 rfl wa (aD 0 1 il ft sz3 ag3 rfl rfl (vI r_1.Y) rfl wa (aF wo rfl 3 rfl wa (aD 0 1 il ft sz3 ag3 rfl rfl (vI r_1.H) rfl wa (ae (vI (w64 (r_1.Y+r_1.H))) wa rfl (ae (vB (decide (p_2.Y<(w64 (r_1.Y+r_1.H))))) wa rfl (ae (vB (decide (p_2.Y<(w64 (r_1.Y+r_1.H))))) wz rfl (ae (vB (decide (p_2.Y<(w64 (r_1.Y+r_1.H))))) wz rfl (aj ?_)))))))))))
     obtain rfl:=ah h_5
     exact cu
    ·refine aC rfl hc_8 wz (ai wa (ai wa (ai wa (ai wa (ai wa (ai wa (ai wa (ai wa (ae (vB false) wz rfl (ae (vB false) wz rfl (aj ?_)))))))))))
     obtain rfl:=ah h_5
     exact cu
   ·refine aC rfl hc_7 wz (ai wa (ai wa (ai wa (ai wa (ai wa (ae (vB false) wz rfl (ae (vB false) wz rfl (ai wa (ai wa (ai wa (ai wa (ai wa (ai wa (ai wa (ai wa (ae (vB false) wz rfl (ae (vB false) wz rfl (aj ?_))))))))))))))))))
    obtain rfl:=ah h_5
    exact cu
  ·refine aC rfl hc_6 wz (ai wa (ai wa (ai wa (ai wa (ai wa (ai wa (ai wa (ai wa (ae (vB false) wz rfl (ae (vB false) wz rfl (ai wa (ai wa (ai wa (ai wa (ai wa (ae (vB false) wz rfl (ae (vB false) wz rfl (ai wa (ai wa (ai wa (ai wa (ai wa (ai wa ?_)))))))))))))))))))))))
   refine ai wa (ai wa (ae (vB false) wz rfl (ae (vB false) wz rfl (aj ?_))))
   obtain rfl:=ah h_5
   exact cu
 ·rintro ⟨⟩ _ sl_ H_ hp_ hq_
  refine aV _ hp_ hq_ ?_
  obtain rfl:=ah hF
  exact ay (uj (.inr rfl) [(vB v_4)] _ [0] [au 0] ⟨rfl,trivial⟩ (.cons (iq rfl rfl) (.nil)) (by kernel_rfl) ⟨(by kernel_rfl),trivial⟩ (by decide) (by kernel_rfl))
theorem ko {s_1:(List Rect)} {f_2:Rect->Option Bool} {r:Int} {gid:FuncId} {caps:List V} {Sin:List Box} (hfn:∀x0 r,f_2 x0=some r->FnM Tryz.prog gid ([(.d (.agg (Rect.enc x0)))]++caps) Sin (vB r) (Sin.map some)) (hbF:aG Tryz.prog gid=true) (hcapF:caps.flatMap frz=[]/\caps.map co0=caps) (hokF:okL Sin.length caps=true) (hsF:∀b∈Sin,b.ok Sin.length=true) (hmF:∀b∈Sin,b.mut=true) (hF:eY s_1 f_2=some r) :
  FnM Tryz.prog 179 [(vL Rect.enc s_1),(.fn gid caps)] Sin (vI r) (Sin.map some):=by
 refine FnM.of_wH ⟨Tryz.prog,19,[],[]⟩ rfl Tryz.func179 rfl rfl (lb_ rfl) (by kernel_rfl) ?_
 unfold eY at hF
 refine af (aa (ae (vI 0) wz rfl (aj (af (af (aa (ae (vL Rect.enc s_1) wz rfl (dA xE rfl wz (ae (vI 0) wz rfl (aj ?_))))))))))
 obtain ⟨o_11,hj_12,hF⟩:=bind_some hF
 obtain ⟨hn_7,hj_12⟩:=bv hj_12
 refine aI (β:=(Unit)) (λ(s_8:Unit)=>([]:SL_)) (λ(s_8:Unit)=>(lZ 0 Sin)) (λp=>o_11 = .go p) ?_ ?_
 ·refine aB (bn (β:=Nat×(List Rect)×(Unit)) (λp=>(λ(k_3:Nat) (l_4:List Rect) (s_8:Unit)=>([(0,(vL Rect.enc s_1)),(1,(.fn gid caps)),(7,(vI (s_1.length:Int))),(8,(vI (k_3:Int)))]:SL_)) p.1 p.2.1 p.2.2) (λp=>(λ(k_3:Nat) (l_4:List Rect) (s_8:Unit)=>(lZ 0 Sin)) p.1 p.2.1 p.2.2) (λp=>forR (λk x s=>ed f_2 k x s) p.2.1 p.1 p.2.2=some o_11/\(s_1).drop p.1=p.2.1) (λp=>p.2.1.length) (0,s_1,()) ⟨hj_12,rfl⟩ rfl (yO _) ?_)
  rintro ⟨k_3,l_4,s_8⟩ ⟨hL_10,hD_6⟩
  dsimp only at hL_10 hD_6
  cases l_4 with
  | nil =>
   obtain rfl:=ah hL_10
   refine af (aa (ae (vB (decide ((k_3:Int)<(s_1.length:Int)))) wz rfl (aj ?_)))
   refine af (ax rfl (drop_nil hD_6) (bE ?_))
   exact bN (s_8) rfl rfl (yO _)
  | cons x_5 l_4 =>
   obtain ⟨c_,hc_9,hL_10⟩:=bind_some hL_10
   refine af (aa (ae (vB (decide ((k_3:Int)<(s_1.length:Int)))) wz rfl (aj ?_)))
   refine af (aA rfl (bP hD_6) (av ?_))
   unfold ed at hc_9
   refine af (aB (af (aa (ae (vI (k_3:Int)) wz rfl (ae (vI (k_3:Int)) wz rfl (aj (af (aa (ae (.fn gid caps) wz rfl (ae (vL Rect.enc s_1) wz rfl (ae (vI (k_3:Int)) wz rfl (jk zX rfl rfl (dB hD_6) rfl wz (fA nW xM rfl (.d (.agg (Rect.enc x_5))) rfl wz ?_)))))))))))))
   obtain ⟨r_13,hr_14,hc_9⟩:=bind_some hc_9
   refine FP (hfn _ _ hr_14) rfl hbF rfl rfl hcapF hokF hsF hmF rfl wz rfl (aj ?_)
   rcases ak hc_9 with⟨hc_15,hc_9⟩|⟨hc_15,hc_9⟩
   ·refine aA rfl hc_15 (af (aa (ae (vI (k_3:Int)) wz rfl (ae (vI (k_3:Int)) wz rfl (aj ?_)))))
    obtain rfl:=ah hc_9
    obtain rfl:=ah hL_10
    obtain rfl:=ah hF
    exact ay (finS hsF (.inr rfl) [(vI (k_3:Int))] ⟨rfl,trivial⟩ rfl rfl rfl)
   ·refine ax rfl hc_15 (av (aa (gN (bU hD_6 hn_7) wz rfl (ae (vI ((k_3+1:Nat):Int)) wz rfl (aj ?_)))))
    obtain rfl:=ah hc_9
    exact bC (k_3+1,l_4,()) ⟨hL_10,aY hD_6⟩ (ls_ _) rfl (yO _)
 ·rintro s_8 ho_ sl_ H_ hp_ hq_
  subst ho_
  refine aV _ hp_ hq_ (af (aa (ae (vI (-1)) wz rfl (aj ?_))))
  obtain rfl:=ah hF
  exact ay (finS hsF (.inr rfl) [(vI (-1))] ⟨rfl,trivial⟩ rfl rfl rfl)
theorem jD {s_1:(List Rect)} {f_2:Rect->Option Bool} {r:Bool} {gid:FuncId} {caps:List V} {Sin:List Box} (hfn:∀x0 r,f_2 x0=some r->FnM Tryz.prog gid ([(.d (.agg (Rect.enc x0)))]++caps) Sin (vB r) (Sin.map some)) (hbF:aG Tryz.prog gid=true) (hcapF:caps.flatMap frz=[]/\caps.map co0=caps) (hokF:okL Sin.length caps=true) (hsF:∀b∈Sin,b.ok Sin.length=true) (hmF:∀b∈Sin,b.mut=true) (hF:dX s_1 f_2=some r) :
  FnM Tryz.prog 133 [(vL Rect.enc s_1),(.fn gid caps)] Sin (vB r) (Sin.map some):=by
 refine FnM.of_wH ⟨Tryz.prog,9,[],[]⟩ rfl Tryz.func133 rfl rfl (lb_ rfl) (by kernel_rfl) ?_
 unfold dX at hF
 refine af (aa (ae (vB false) wz rfl (aj (af (aa (ae (vL Rect.enc s_1) wz rfl (ae (.fn gid caps) wz rfl ?_)))))))
 obtain ⟨r_3,hr_4,hF⟩:=bind_some hF
 refine FP (ko (gid:=gid) (caps:=caps) (Sin:=Sin) hfn hbF hcapF hokF hsF hmF hr_4) rfl hb179 rfl rfl ⟨rfl,rfl⟩ (by simp [okL,okV,hokF]) hsF hmF rfl wz rfl (ae (vB (decide (r_3>=0))) wz rfl (ae (vB (decide (r_3>=0))) wz rfl (aj ?_)))
 obtain rfl:=ah hF
 exact ay (finS hsF (.inr rfl) [(vB (decide (r_3>=0)))] ⟨rfl,trivial⟩ rfl rfl rfl)
theorem vW {a_1:Alert} {p_2:Post} {r:Bool} (hF:mF a_1 p_2=some r) :
  FnM Tryz.prog 96 [(.d (.agg (Alert.enc a_1))),(.d (.agg (Post.enc p_2)))] [] (vB r) []:=by
 refine FnM.of_wH ⟨Tryz.prog,9,[],[]⟩ rfl Tryz.func96 rfl rfl (lb_ rfl) (by kernel_rfl) ?_
 unfold mF at hF
 refine af (aa (jN 0 (.inl rfl) [(vS a_1.Id),(vS a_1.Sender),(vI a_1.Kind),(vL eS a_1.Refs),(vI a_1.At),(vI a_1.Until),(vI a_1.Weight),(vL Rect.enc a_1.Areas),(vS a_1.Text)] rfl rfl wz (λn_3=>jN 0 (.inl rfl) [(vS p_2.Player),(vI p_2.X),(vI p_2.Y)] rfl rfl wz (λn_4=>ae (vB false) wz rfl (aj (af (aa (aF kY rfl 7 rfl wz (aD 0 0 il ft tY xO rfl rfl (vL Rect.enc a_1.Areas) rfl wz (ae (.fn 134 [(.ref n_4 0 0)]) wz rfl ?_))))))))))
 obtain ⟨r_5,hr_6,hF⟩:=bind_some hF
 refine aW 0 [1] il ft (jD (gid:=134) (caps:=[.ref (au 0) 0 0]) (Sin:=[(.cells 3 [(vS p_2.Player),(vI p_2.X),(vI p_2.Y)])]) (λ_ _ h_=>uo h_) hb134 ⟨rfl,rfl⟩ (by kernel_rfl) (all_ok (by kernel_rfl)) (all_mut (by kernel_rfl)) hr_6) rfl hb133 rfl (by kernel_rfl) (by kernel_rfl) (by kernel_rfl) (by kernel_rfl) (by kernel_rfl) (by kernel_rfl) (by kernel_rfl) (by decide) (by kernel_rfl) wz (vB r_5) (by kernel_rfl) ([(n_3,some (.cells 9 [(vS a_1.Id),(vS a_1.Sender),(vI a_1.Kind),(vL eS a_1.Refs),(vI a_1.At),(vI a_1.Until),(vI a_1.Weight),(vL Rect.enc a_1.Areas),(vS a_1.Text)])),(n_4,some (.cells 3 [(vS p_2.Player),(vI p_2.X),(vI p_2.Y)]))]:Hp) (by kernel_rfl) (ae (vB r_5) wz rfl (aj ?_))
 obtain rfl:=ah hF
 exact ay (aX (.inr rfl) [(vB r_5)] ⟨rfl,trivial⟩ rfl rfl rfl)
theorem wh {a_1:Alert} {p_2:Post} {r:Bool×Int} (hF:kP a_1 p_2=some r) :
  FnM Tryz.prog 51 [(.d (.agg (Alert.enc a_1))),(.d (.agg (Post.enc p_2)))] [] (.tup [(vB r.1),(vI r.2)]) []:=by
 refine FnM.of_wH ⟨Tryz.prog,18,[],[]⟩ rfl Tryz.func51 rfl rfl (lb_ rfl) (by kernel_rfl) ?_
 unfold kP at hF
 refine af (aa (jN 0 (.inl rfl) [(vS a_1.Id),(vS a_1.Sender),(vI a_1.Kind),(vL eS a_1.Refs),(vI a_1.At),(vI a_1.Until),(vI a_1.Weight),(vL Rect.enc a_1.Areas),(vS a_1.Text)] rfl rfl wz (λn_3=>jN 0 (.inl rfl) [(vS p_2.Player),(vI p_2.X),(vI p_2.Y)] rfl rfl wz (λn_4=>ae (vB false) wz rfl (ae (vI 0) wz rfl (aj (af (af (aa (aD 0 0 il ft dM iw rfl rfl (.d (.agg (Alert.enc a_1))) rfl wz (fB (([a_1]:List Alert).map Alert.enc) iU Eh rfl rfl rfl rfl rfl wz (aD 0 1 il ft sz81 ag81 rfl rfl (.d (.agg (Post.enc p_2))) rfl wz (fB (([p_2]:List Post).map Post.enc) IW ez124 rfl rfl rfl rfl rfl wz ?_)))))))))))))
 obtain ⟨r_5,hr_6,hF⟩:=bind_some hF
 refine aH (tX hr_6) rfl hb95 rfl rfl rfl rfl wz (ae (vI r_5) wz rfl (aj (af (aa (ae (vI r_5) wz rfl (ae (vB (r_5 != 0)) wz rfl (aj ?_)))))))
 rcases ak hF with⟨hc_7,hF⟩|⟨hc_7,hF⟩
 ·refine aA rfl hc_7 (af (aa (ae (vI r_5) wz rfl (ae (vB false) wz rfl (ae (vI r_5) wz rfl (aj ?_))))))
  obtain rfl:=ah hF
  exact ay (aX (.inr rfl) [(vB false),(vI r_5)] ⟨rfl,⟨rfl,trivial⟩⟩ rfl rfl rfl)
 ·refine ax rfl hc_7 (av (af (aa (aD 0 0 il ft dM iw rfl rfl (.d (.agg (Alert.enc a_1))) rfl wz (aD 0 1 il ft sz81 ag81 rfl rfl (.d (.agg (Post.enc p_2))) rfl wz ?_)))))
  obtain ⟨r_8,hr_9,hF⟩:=bind_some hF
  refine aH (vW hr_9) rfl hb96 rfl rfl rfl rfl wz (ae (vB r_8) wz rfl (ae (vI 0) wz rfl (aj ?_)))
  obtain rfl:=ah hF
  exact ay (aX (.inr rfl) [(vB r_8),(vI 0)] ⟨rfl,⟨rfl,trivial⟩⟩ rfl rfl rfl)
theorem Aa {r:Bool} (hF:mh  = some r) :
  FnM Tryz.prog 18 [] [] (vB r) []:=by
 refine FnM.of_wH ⟨Tryz.prog,18,[],[]⟩ rfl Tryz.func18 rfl rfl (lb_ rfl) (by kernel_rfl) ?_
 unfold mh at hF
 refine af (aa (ae (vB false) wz rfl (aj (af (aa (ae (.d (.agg (Rect.enc (⟨0,0,2,2⟩:Rect)))) wz (by kernel_rfl) (fB (([(⟨0,0,2,2⟩:Rect)]:List Rect).map Rect.enc) zX ez31 rfl rfl rfl rfl rfl wz (ae (.agg [(vS (⟨#[97]⟩:ByteArray)),(vS (⟨#[115]⟩:ByteArray)),(vI 1),.nil,(vI 0),(vI 5),(vI 1),(vL Rect.enc ([(⟨0,0,2,2⟩:Rect)]:List Rect)),(vS (⟨#[120]⟩:ByteArray))]) wz (by kernel_rfl) (fP 0 (.inl rfl) z33 rfl wz (λn_1=>fU 0 il ft 0 dM rfl rfl [(vS (⟨#[97]⟩:ByteArray)),(vS (⟨#[115]⟩:ByteArray)),(vI 1),.nil,(vI 0),(vI 5),(vI 1),(vL Rect.enc ([(⟨0,0,2,2⟩:Rect)]:List Rect)),(vS (⟨#[120]⟩:ByteArray))] rfl wz (aj (af (aa (aD 0 0 il ft dM iw rfl rfl (.agg [(vS (⟨#[97]⟩:ByteArray)),(vS (⟨#[115]⟩:ByteArray)),(vI 1),.nil,(vI 0),(vI 5),(vI 1),(vL Rect.enc ([(⟨0,0,2,2⟩:Rect)]:List Rect)),(vS (⟨#[120]⟩:ByteArray))]) rfl wz (ae (.d (.agg (Post.enc (⟨(⟨#[112]⟩:ByteArray),1,1⟩:Post)))) wz (by kernel_rfl) ?_)))))))))))))))
 obtain ⟨r_2,hr_3,hF⟩:=bind_some hF
 refine aH (wh hr_3) rfl hb51 rfl rfl rfl rfl wz (ae (.tup [(vB r_2.1),(vI r_2.2)]) wz rfl (ae (vB r_2.1) wz rfl (ae (vI r_2.2) wz rfl (ae (vB r_2.1) wz rfl (ae (vI r_2.2) wz rfl (aj (af ?_)))))))
 obtain ⟨v_4,h_5,hF⟩:=bind_some hF
 refine aI (β:=Unit) (λ_=>([(0,(vB v_4))]:SL_)) (λ_=>([(n_1,some (.cells 9 [(vS (⟨#[97]⟩:ByteArray)),(vS (⟨#[115]⟩:ByteArray)),(vI 1),.nil,(vI 0),(vI 5),(vI 1),(vL Rect.enc ([(⟨0,0,2,2⟩:Rect)]:List Rect)),(vS (⟨#[120]⟩:ByteArray))]))]:Hp)) (λ_=>True) ?_ ?_
 ·refine aa (ae (vI r_2.2) wz rfl (ae (vB (r_2.2==0)) wz rfl ?_))
  rcases ak h_5 with⟨hc_6,h_5⟩|⟨hc_6,h_5⟩
  ·refine aC rfl hc_6 wz (ae (vB r_2.1) wa rfl (ae (vB r_2.1) wz rfl (ae (vB r_2.1) wz rfl (aj ?_))))
   obtain rfl:=ah h_5
   exact cu
  ·refine aC rfl hc_6 wz (ai wa (ae (vB false) wz rfl (ae (vB false) wz rfl (aj ?_))))
   obtain rfl:=ah h_5
   exact cu
 ·rintro ⟨⟩ _ sl_ H_ hp_ hq_
  refine aV _ hp_ hq_ ?_
  obtain rfl:=ah hF
  exact ay (aX (.inr rfl) [(vB v_4)] ⟨rfl,trivial⟩ rfl rfl rfl)
theorem tQ {l_1:(List Int)} {r:Bool} (hF:kT l_1=some r) :
  FnM Tryz.prog 3 [(vL eI l_1)] [] (vB r) []:=by
 refine FnM.of_wH ⟨Tryz.prog,74,[],[]⟩ rfl Tryz.func3 rfl rfl (lb_ rfl) (by kernel_rfl) ?_
 unfold kT at hF
 refine af (aa (ae (vB false) wz rfl (aj (af (aa (ae (vL eI l_1) wz rfl (ae (.d (.agg (Stream.enc (⟨l_1,0⟩:Stream)))) wz (by kernel_rfl) (jN 0 (.inl rfl) [(vL eI l_1),(vI 0)] rfl rfl wz (λn_2=>ae (.ref n_2 0 0) wz rfl (aj (af (aa (ae (.ref n_2 0 0) wz rfl ?_)))))))))))))
 obtain ⟨r_3,hr_4,hF⟩:=bind_some hF
 refine aW 0 [0] il ft (nK hr_4) rfl hb6 rfl (by kernel_rfl) (by kernel_rfl) (by kernel_rfl) (by kernel_rfl) (by kernel_rfl) (by kernel_rfl) (by kernel_rfl) (by decide) (by kernel_rfl) wz (vL Alert.enc r_3.1) (by kernel_rfl) ([(n_2,some (.cells 2 [(vL eI r_3.2.L),(vI r_3.2.f_at)]))]:Hp) (by kernel_rfl) (ae (.ref n_2 0 0) wz rfl ?_)
 obtain ⟨r_6,hr_7,hF⟩:=bind_some hF
 refine aW 0 [0] il ft (nK hr_7) rfl hb6 rfl (by kernel_rfl) (by kernel_rfl) (by kernel_rfl) (by kernel_rfl) (by kernel_rfl) (by kernel_rfl) (by kernel_rfl) (by decide) (by kernel_rfl) wz (vL Alert.enc r_6.1) (by kernel_rfl) ([(n_2,some (.cells 2 [(vL eI r_6.2.L),(vI r_6.2.f_at)]))]:Hp) (by kernel_rfl) (ae (vL Alert.enc r_3.1) wz rfl (ae (vL Alert.enc r_6.1) wz rfl (aj (af (af ?_)))))
 obtain ⟨v_9,h_10,hF⟩:=bind_some hF
 refine aI (β:=Unit) (λ_=>([(3,(.ref n_2 0 0)),(4,(vL Alert.enc r_3.1)),(5,(vL Alert.enc r_6.1)),(23,(vB v_9.1))]:SL_)) (λ_=>([(n_2,some (.cells 2 [(vL eI v_9.2.1),(vI v_9.2.2)]))]:Hp)) (λ_=>True) ?_ ?_
 ·refine aa (ae (vL Alert.enc r_3.1) wz rfl (dA lK rfl wz (ae (vB (decide ((r_3.1.length:Int)>0))) wz rfl ?_)))
  rcases ak h_10 with⟨hc_11,h_10⟩|⟨hc_11,h_10⟩
  ·refine aC rfl hc_11 wz (ae (.ref n_2 0 0) wa rfl ?_)
   obtain ⟨r_12,hr_13,h_10⟩:=bind_some h_10
   refine aW 0 [0] il ft (fu hr_13) rfl hb7 rfl (by kernel_rfl) (by kernel_rfl) (by kernel_rfl) (by kernel_rfl) (by kernel_rfl) (by kernel_rfl) (by kernel_rfl) (by decide) (by kernel_rfl) wa (vB r_12.1) (by kernel_rfl) ([(n_2,some (.cells 2 [(vL eI r_12.2.L),(vI r_12.2.f_at)]))]:Hp) (by kernel_rfl) (ae (vB r_12.1) wz rfl (aj ?_))
   obtain rfl:=ah h_10
   exact cu
  ·refine aC rfl hc_11 wz (ai wa (ai wa (ae (vB false) wz rfl (aj ?_))))
   obtain rfl:=ah h_10
   exact cu
 ·rintro ⟨⟩ _ sl_ H_ hp_ hq_
  refine aV _ hp_ hq_ ?_
  obtain ⟨v_17,h_18,hF⟩:=bind_some hF
  refine DV (β:=Unit) (λ_=>([(4,(vL Alert.enc r_3.1)),(5,(vL Alert.enc v_17.1))]:SL_)) (λ_=>([(n_2,some (.cells 2 [(vL eI v_17.2.1),(vI v_17.2.2)]))]:Hp)) (λ_=>True) ?_ ?_
  ·rcases ak h_18 with⟨hc_19,h_18⟩|⟨hc_19,h_18⟩
   ·refine aA rfl hc_19 (af (aa (ae (vL Alert.enc r_3.1) wz rfl (ae (.ref n_2 0 0) wz rfl (ae (vL Alert.enc r_3.1) wz rfl (dA lK rfl wz ?_))))))
    obtain ⟨r_20,hr_21,h_18⟩:=bind_some h_18
    refine aW 0 [0] il ft (dL hr_21) rfl hb9 rfl (by kernel_rfl) (by kernel_rfl) (by kernel_rfl) (by kernel_rfl) (by kernel_rfl) (by kernel_rfl) (by kernel_rfl) (by decide) (by kernel_rfl) wz (vI r_20.1) (by kernel_rfl) ([(n_2,some (.cells 2 [(vL eI r_20.2.L),(vI r_20.2.f_at)]))]:Hp) (by kernel_rfl) ?_
    obtain ⟨y_23,hy_24,h_18⟩:=bind_some h_18
    refine xP lK dM (λ_=>rfl) rfl rfl hy_24 wz ?_
    obtain ⟨r_25,hr_26,h_18⟩:=bind_some h_18
    refine Cj [] (gK hr_26) rfl hb8 rfl (by kernel_rfl) (by kernel_rfl) (by kernel_rfl) (by kernel_rfl) (by kernel_rfl) rfl (by decide) (by kernel_rfl) wz ([(n_2,some (.cells 2 [(vL eI r_20.2.L),(vI r_20.2.f_at)]))]:Hp) (λ_=>by kernel_rfl) (λn_28=>ae (gV n_28 9 r_25) wz rfl (aj (af (aa (ae (.ref n_2 0 0) wz rfl ?_)))))
    obtain ⟨r_29,hr_30,h_18⟩:=bind_some h_18
    refine aW 0 [0] il ft (fu hr_30) rfl hb7 rfl (by kernel_rfl) (by kernel_rfl) (by kernel_rfl) (by kernel_rfl) (by kernel_rfl) (by kernel_rfl) (by kernel_rfl) (by decide) (by kernel_rfl) wz (vB r_29.1) (by kernel_rfl) ([(n_2,some (.cells 2 [(vL eI r_29.2.L),(vI r_29.2.f_at)])),(n_28,gB 9 Alert.enc r_25)]:Hp) (by kernel_rfl) (aj ?_)
    rcases ak h_18 with⟨hc_32,h_18⟩|⟨hc_32,h_18⟩
    ·refine aA rfl hc_32 (aa (ae (gV n_28 9 r_25) wz rfl (ae (.ref n_2 0 0) wz rfl ?_)))
     obtain ⟨r_33,hr_34,h_18⟩:=bind_some h_18
     refine aW 0 [0] il ft (bS hr_34) rfl zJ rfl (by kernel_rfl) (by kernel_rfl) (by kernel_rfl) (by kernel_rfl) (by kernel_rfl) (by kernel_rfl) (by kernel_rfl) (by decide) (by kernel_rfl) wz (vI r_33.1) (by kernel_rfl) ([(n_2,some (.cells 2 [(vL eI r_33.2.L),(vI r_33.2.f_at)])),(n_28,gB 9 Alert.enc r_25)]:Hp) (by kernel_rfl) ?_
     obtain ⟨_,hi_36,h_18⟩:=bind_some h_18
     refine Et iU rfl rfl (kC hi_36) (iy hi_36) wz (aF uG rfl 6 rfl wz ?_)
     obtain ⟨e_37,hy_38,h_18⟩:=bind_some h_18
     refine kL 0 il ft 1 sz3 rfl rfl hy_38 (⟨e_37.Id,e_37.Sender,e_37.Kind,e_37.Refs,e_37.At,e_37.Until,r_33.1,e_37.Areas,e_37.Text⟩:Alert) rfl wz (cK (v':=(gV n_28 9 (r_25.set (0+(0:Int).toNat) (⟨e_37.Id,e_37.Sender,e_37.Kind,e_37.Refs,e_37.At,e_37.Until,r_33.1,e_37.Areas,e_37.Text⟩:Alert)))) 5 rfl (dH (by simp)) (cK (v':=(gV n_28 9 (r_25.set (0+(0:Int).toNat) (⟨e_37.Id,e_37.Sender,e_37.Kind,e_37.Refs,e_37.At,e_37.Until,r_33.1,e_37.Areas,e_37.Text⟩:Alert)))) 30 rfl (dH (by simp)) (cK (v':=(gV n_28 9 (r_25.set (0+(0:Int).toNat) (⟨e_37.Id,e_37.Sender,e_37.Kind,e_37.Refs,e_37.At,e_37.Until,r_33.1,e_37.Areas,e_37.Text⟩:Alert)))) 33 rfl (dH (by simp)) (aj ?_))))
     intro C_ b_ Q_ key_
     refine jq 1 rfl (fC 5 1 rfl rfl (fC 30 1 rfl rfl (fC 33 1 rfl rfl ?_)))
     obtain rfl:=ah h_18
     exact key_ () trivial _ _ rfl (aK rfl)
    ·refine ax rfl hc_32 (av ?_)
     intro C_ b_ Q_ key_
     refine jq 1 rfl (fC 5 1 rfl rfl (fC 30 1 rfl rfl ?_))
     obtain rfl:=ah h_18
     exact key_ () trivial _ _ rfl (aK rfl)
   ·refine ax rfl hc_19 (av ?_)
    intro C_ b_ Q_ key_
    obtain rfl:=ah h_18
    exact key_ () trivial _ _ rfl (aK rfl)
  ·rintro ⟨⟩ _ sl_ H_ hp_ hq_
   refine aV _ hp_ hq_ (af (aa (ae (vL Alert.enc r_3.1) wz rfl (ae (vL Alert.enc v_17.1) wz rfl ?_))))
   obtain ⟨r_39,hr_40,hF⟩:=bind_some hF
   refine aH (yo hr_40) rfl hb11 rfl rfl rfl rfl wz (ae (.tup [(vL Alert.enc r_39.1),(vI r_39.2)]) wz rfl (ae (vL Alert.enc r_39.1) wz rfl (ae (vI r_39.2) wz rfl (ae (vL Alert.enc r_39.1) wz rfl (ae (vI r_39.2) wz rfl (aj (af (aa (ae (vL Alert.enc r_3.1) wz rfl ?_)))))))))
   obtain ⟨r_41,hr_42,hF⟩:=bind_some hF
   refine aH (oH hr_42) rfl hb12 rfl rfl rfl rfl wz (ae (vI r_41) wz rfl (aj (af (af (aa (ae (vL Alert.enc r_3.1) wz rfl ?_))))))
   obtain ⟨r_43,hr_44,hF⟩:=bind_some hF
   refine aH (jR hr_44) rfl hb13 rfl rfl rfl rfl wz (ae (vI r_41) wz rfl (ae (vB (r_43 != r_41)) wz rfl (aj ?_)))
   rcases ak hF with⟨hc_45,hF⟩|⟨hc_45,hF⟩
   ·refine aA rfl hc_45 (af (aa (ae (vB false) wz rfl (aj ?_))))
    obtain rfl:=ah hF
    exact ay (aX (.inr rfl) [(vB false)] ⟨rfl,trivial⟩ rfl rfl rfl)
   ·refine ax rfl hc_45 (av (af (aa (ae .nil wz rfl (aj (af (af (aa (ae (vI r_41) wz rfl (ae (vL Alert.enc v_17.1) wz rfl ?_))))))))))
    obtain ⟨r_46,hr_47,hF⟩:=bind_some hF
    refine aH (oH hr_47) rfl hb12 rfl rfl rfl rfl wz (fB (([r_41,r_46]:List Int).map eI) es73 ez73 rfl rfl rfl rfl rfl wz ?_)
    obtain ⟨r_48,hr_49,hF⟩:=bind_some hF
    refine aH (CG hr_49) rfl hb14 rfl rfl rfl rfl wz (ae (vI r_48) wz rfl (aj (af (aa (ae (vI r_48) wz rfl (ae (vB (r_48==0)) wz rfl (aj (wH_nilL Alert.enc 9 rfl ?_))))))))
    obtain ⟨v_52,h_53,hF⟩:=bind_some hF
    refine aI (β:=Unit) (λ_=>([(6,(vL Alert.enc r_39.1)),(7,(vI r_39.2)),(8,(vI v_52.1)),(9,(vL Alert.enc v_52.2))]:SL_)) (λ_=>([(n_2,some (.cells 2 [(vL eI v_17.2.1),(vI v_17.2.2)]))]:Hp)) (λ_=>True) ?_ ?_
    ·rcases ak h_53 with⟨hc_54,h_53⟩|⟨hc_54,h_53⟩
     ·refine aA rfl hc_54 (aa (ae (vL Alert.enc r_3.1) wz rfl (ae (vL Alert.enc v_17.1) wz rfl ?_)))
      obtain ⟨r_55,hr_56,h_53⟩:=bind_some h_53
      refine aH (xC hr_56) rfl hb15 rfl rfl rfl rfl wz (ae (.tup [(vL Alert.enc r_55.1),(vI r_55.2)]) wz rfl (ae (vL Alert.enc r_55.1) wz rfl (ae (vI r_55.2) wz rfl (ae (vL Alert.enc r_55.1) wz rfl (ae (vI r_55.2) wz rfl (aj ?_))))))
      obtain rfl:=ah h_53
      exact cu
     ·refine ax rfl hc_54 (av ?_)
      obtain rfl:=ah h_53
      exact cu
    ·rintro ⟨⟩ _ sl_ H_ hp_ hq_
     refine aV _ hp_ hq_ (af ?_)
     obtain ⟨v_57,h_58,hF⟩:=bind_some hF
     refine aI (β:=Unit) (λ_=>([(2,(vB v_57))]:SL_)) (λ_=>([(n_2,some (.cells 2 [(vL eI v_17.2.1),(vI v_17.2.2)]))]:Hp)) (λ_=>True) ?_ ?_
     ·refine aa (ae (vI r_39.2) wz rfl (ae (vI v_52.1) wz rfl (ae (vB (r_39.2==v_52.1)) wz rfl ?_)))
      rcases ak h_58 with⟨hc_59,h_58⟩|⟨hc_59,h_58⟩
      ·refine aC rfl hc_59 wz (ae (vL Alert.enc r_39.1) wa rfl (ae (vL Alert.enc v_52.2) wa rfl ?_))
       obtain ⟨r_60,hr_61,h_58⟩:=bind_some h_58
       refine aH (fq hr_61) rfl hb16 rfl rfl rfl rfl wa (ae (vB r_60) wz rfl ?_)
       rcases ak h_58 with⟨hc_62,h_58⟩|⟨hc_62,h_58⟩
       ·refine aC rfl hc_62 wz ?_
        obtain ⟨r_63,hr_64,h_58⟩:=bind_some h_58
        refine aH (Aa hr_64) rfl hb18 rfl rfl rfl rfl wa (ae (vB r_63) wz rfl (ae (vB r_63) wz rfl (aj ?_)))
        obtain rfl:=ah h_58
        exact cu
       ·refine aC rfl hc_62 wz (ai wa (ae (vB false) wz rfl (ae (vB false) wz rfl (aj ?_))))
        obtain rfl:=ah h_58
        exact cu
      ·refine aC rfl hc_59 wz (ai wa (ai wa (ai wa (ae (vB false) wz rfl (ae (vB false) wz rfl (ai wa (ae (vB false) wz rfl (ae (vB false) wz rfl (aj ?_)))))))))
       obtain rfl:=ah h_58
       exact cu
     ·rintro ⟨⟩ _ sl_ H_ hp_ hq_
      refine aV _ hp_ hq_ ?_
      obtain rfl:=ah hF
      exact ay (aX (.inr rfl) [(vB v_57)] ⟨rfl,trivial⟩ rfl rfl rfl)
end Go.Proofs.YtpmokglbipebcaaGreatDoor.Law

