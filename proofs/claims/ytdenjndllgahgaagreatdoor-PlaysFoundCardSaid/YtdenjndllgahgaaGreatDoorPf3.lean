/-
 The machine computes these plain functions (written by a program of ours).
-/
import Derived.Test.YtdenjndllgahgaaGreatDoorFacts
import Derived.Test.YtdenjndllgahgaaGreatDoorDefs
import Derived.Test.YtdenjndllgahgaaGreatDoorPf2
import Derived.Test.YtdenjndllgahgaaGreatDoorShelf
open Go Go.Eng Go.Proofs
namespace Go.Proofs.YtdenjndllgahgaaGreatDoor.Law
set_option maxRecDepth 100000
set_option linter.unusedVariables false
set_option maxHeartbeats 1000000
theorem dW {data_1:(List Placed)} {a_2:Int} {b_3:Int} {r:(List Placed)} (hF:bg data_1 a_2 b_3=some r) :
  FnM Tryz.prog 203 [(dV (au 0) 2 data_1),(vI a_2),(vI b_3),(.fn 134 [])] (([]:List Box)++gI 2 Placed.enc data_1) (.tup []) (([]:List Box).map some++gT data_1 (gB 2 Placed.enc r)):=by
 refine FnM.of_wHv ⟨Tryz.prog,53,[],[]⟩ rfl Tryz.func203 rfl rfl (lb_ rfl) (by kernel_rfl) ?_
 unfold bg at hF
 refine af (aa (ae (vI a_2) wz rfl (ae (vI (w64 (a_2+1))) wz rfl (ae (vI (w64 (a_2+1))) wz rfl (ai ?_)))))
 obtain ⟨o_13,hj_14,hF⟩:=bind_some hF
 obtain ⟨nq_51,hj_14⟩:=dM hj_14
 refine aG (β:=((List Placed)×Int)) (λ(s_10:(List Placed)×Int)=>([]:SL_)) (λ(s_10:(List Placed)×Int)=>([((au 0),gB 2 Placed.enc s_10.1)]:Hp)) (λp=>o_13 = .go p) ?_ ?_
 ·refine ax (bA (β:=Nat×((List Placed)×Int)) (λp=>(λ(k_5:Nat) (s_10:(List Placed)×Int)=>([(0,(dV (au 0) 2 s_10.1)),(1,(vI a_2)),(2,(vI b_3)),(3,(.fn 134 [])),(8,(vI s_10.2))]:SL_)) p.1 p.2) (λp=>(λ(k_5:Nat) (s_10:(List Placed)×Int)=>([((au 0),gB 2 Placed.enc s_10.1)]:Hp)) p.1 p.2) (λp=>bL (λs=>bI b_3 a_2 s) p.1 p.2=some o_13) (λp=>p.1) (nq_51,(data_1,(w64 (a_2+1)))) hj_14 rfl (aL rfl) ?_)
  rintro ⟨k_5,s_10⟩ hL_12
  dsimp only at hL_12
  cases k_5 with
  | zero=>cases hL_12
  | succ k_5 =>
   obtain ⟨c_,hc_11,hL_12⟩:=bind_some hL_12
   unfold bI at hc_11
   refine af (af (aa (ae (vI s_10.2) wz rfl (ae (vI b_3) wz rfl (ae (vB (decide (s_10.2<b_3))) wz rfl (ai ?_))))))
   rcases ak hc_11 with⟨hc_15,hc_11⟩|⟨hc_15,hc_11⟩
   ·refine ay rfl hc_15 (av (af (ax (af (aa (ae (vI s_10.2) wz rfl (ae (vI s_10.2) wz rfl (ai ?_))))))))
    obtain ⟨o_24,hj_25,hc_11⟩:=bind_some hc_11
    obtain ⟨nq_50,hj_25⟩:=dM hj_25
    refine aG (β:=((List Placed)×Int)) (λ(s_21:(List Placed)×Int)=>([(0,(dV (au 0) 2 s_21.1)),(1,(vI a_2)),(2,(vI b_3)),(3,(.fn 134 [])),(8,(vI s_10.2))]:SL_)) (λ(s_21:(List Placed)×Int)=>([((au 0),gB 2 Placed.enc s_21.1)]:Hp)) (λp=>o_24 = .go p) ?_ ?_
    ·refine ax (bA (β:=Nat×((List Placed)×Int)) (λp=>(λ(k_16:Nat) (s_21:(List Placed)×Int)=>([(0,(dV (au 0) 2 s_21.1)),(1,(vI a_2)),(2,(vI b_3)),(3,(.fn 134 [])),(8,(vI s_10.2)),(9,(vI s_21.2))]:SL_)) p.1 p.2) (λp=>(λ(k_16:Nat) (s_21:(List Placed)×Int)=>([((au 0),gB 2 Placed.enc s_21.1)]:Hp)) p.1 p.2) (λp=>bL (λs=>bJ a_2 s) p.1 p.2=some o_24) (λp=>p.1) (nq_50,(s_10.1,s_10.2)) hj_25 rfl (aL rfl) ?_)
     rintro ⟨k_16,s_21⟩ hL_23
     dsimp only at hL_23
     cases k_16 with
     | zero=>cases hL_23
     | succ k_16 =>
      obtain ⟨c_,hc_22,hL_23⟩:=bind_some hL_23
      unfold bJ at hc_22
      refine af (af ?_)
      obtain ⟨v_26,h_27,hc_22⟩:=bind_some hc_22
      refine aG (β:=Unit) (λ_=>([(0,(dV (au 0) 2 s_21.1)),(1,(vI a_2)),(2,(vI b_3)),(3,(.fn 134 [])),(8,(vI s_10.2)),(9,(vI s_21.2)),(34,(vB v_26))]:SL_)) (λ_=>([((au 0),gB 2 Placed.enc s_21.1)]:Hp)) (λ_=>True) ?_ ?_
      ·refine bK (ae (vI s_21.2) wz rfl (ae (vI a_2) wz rfl (ae (vB (decide (s_21.2>a_2))) wz rfl ?_)))
       rcases ak h_27 with⟨hc_28,h_27⟩|⟨hc_28,h_27⟩
       ·refine aC rfl hc_28 wz (ae (.fn 134 []) wa rfl (ae (dV (au 0) 2 s_21.1) wa rfl (ae (vI s_21.2) wa rfl ?_)))
        obtain ⟨_,hi_29,h_27⟩:=bind_some h_27
        refine jQ sM rfl rfl (jA hi_29) (gu hi_29) wa ?_
        obtain ⟨e_30,hy_31,h_27⟩:=bind_some h_27
        refine jD 8 0 (.inr (by kernel_rfl)) (λ_ _ ag=>trivial) qH AJ rfl rfl hy_31 (.d (.agg (Placed.enc e_30))) rfl wa (ae (dV (au 0) 2 s_21.1) wa rfl (ae (vI s_21.2) wa rfl (ae (vI (w64 (s_21.2-1))) wa rfl ?_)))
        obtain ⟨_,hi_32,h_27⟩:=bind_some h_27
        refine jQ sM rfl rfl (jA hi_32) (gu hi_32) wa ?_
        obtain ⟨e_33,hy_34,h_27⟩:=bind_some h_27
        refine jD 13 0 (.inr (by kernel_rfl)) (λ_ _ ag=>⟨.inl ⟨rfl,rfl⟩,trivial⟩) qH AJ rfl rfl hy_34 (.d (.agg (Placed.enc e_33))) rfl wa ?_
        obtain ⟨r_35,hr_36,h_27⟩:=bind_some h_27
        refine aH (qA hr_36) rfl hb134 rfl rfl rfl rfl wa (ae (vB (decide (r_35<0))) wa rfl (ae (vB (decide (r_35<0))) wz rfl (ai ?_)))
        obtain rfl:=ah h_27
        exact cu
       ·refine aC rfl hc_28 wz (aj wa (aj wa (aj wa (aj wa (aj wa (aj wa (aj wa (aj wa (aj wa (aj wa (aj wa (aj wa (ae (vB false) wz rfl (ai ?_))))))))))))))
        obtain rfl:=ah h_27
        exact cu
      ·rintro ⟨⟩ _ sl_ H_ hp_ hq_
       refine aQ _ hp_ hq_ ?_
       rcases ak hc_22 with⟨hc_37,hc_22⟩|⟨hc_37,hc_22⟩
       ·refine ay rfl hc_37 (av (af (ax (bK (ae (dV (au 0) 2 s_21.1) wz rfl (ae (vI s_21.2) wz rfl (ae (dV (au 0) 2 s_21.1) wz rfl (ae (vI s_21.2) wz rfl (ae (vI (w64 (s_21.2-1))) wz rfl (ae (dV (au 0) 2 s_21.1) wz rfl (ae (vI s_21.2) wz rfl (ae (vI (w64 (s_21.2-1))) wz rfl ?_))))))))))))
        obtain ⟨_,hi_38,hc_22⟩:=bind_some hc_22
        refine jQ sM rfl rfl (jA hi_38) (gu hi_38) wz ?_
        obtain ⟨e_39,hy_40,hc_22⟩:=bind_some hc_22
        refine jD 9 0 (.inr (by kernel_rfl)) (λ_ _ ag=>trivial) qH AJ rfl rfl hy_40 (.d (.agg (Placed.enc e_39))) rfl wz (ae (dV (au 0) 2 s_21.1) wz rfl (ae (vI s_21.2) wz rfl ?_))
        obtain ⟨_,hi_41,hc_22⟩:=bind_some hc_22
        refine jQ sM rfl rfl (jA hi_41) (gu hi_41) wz ?_
        obtain ⟨e_42,hy_43,hc_22⟩:=bind_some hc_22
        refine jD 13 0 (.inr (by kernel_rfl)) (λ_ _ ag=>⟨.inl ⟨rfl,rfl⟩,trivial⟩) qH AJ rfl rfl hy_43 (.d (.agg (Placed.enc e_42))) rfl wz ?_
        obtain ⟨_,hi_44,hc_22⟩:=bind_some hc_22
        refine jQ sM rfl rfl (jA hi_44) (gu hi_44) wz ?_
        obtain ⟨e_45,hy_46,hc_22⟩:=bind_some hc_22
        refine je 15 (.inr (by kernel_rfl)) (λ_ _ ag=>⟨.inr (.inr (by kernel_rfl)),⟨.inr (.inr (by kernel_rfl)),trivial⟩⟩) 0 qH rfl rfl hy_46 e_39 rfl wz (bM (v':=(dV (au 0) 2 (s_21.1.set (0+(s_21.2).toNat) e_39))) 0 rfl (bZ (by simp)) (bM (v':=(dV (au 0) 2 (s_21.1.set (0+(s_21.2).toNat) e_39))) 37 rfl (bZ (by simp)) (bM (v':=(dV (au 0) 2 (s_21.1.set (0+(s_21.2).toNat) e_39))) 39 rfl (bZ (by simp)) (bM (v':=(dV (au 0) 2 (s_21.1.set (0+(s_21.2).toNat) e_39))) 42 rfl (bZ (by simp)) (bM (v':=(dV (au 0) 2 (s_21.1.set (0+(s_21.2).toNat) e_39))) 47 rfl (bZ (by simp)) ?_)))))
        obtain ⟨_,hi_47,hc_22⟩:=bind_some hc_22
        refine jQ sM rfl rfl (jA hi_47) (gu hi_47) wz ?_
        obtain ⟨e_48,hy_49,hc_22⟩:=bind_some hc_22
        refine je 17 (.inr (by kernel_rfl)) (λ_ _ ag=>⟨.inr (.inr (by kernel_rfl)),⟨.inr (.inr (by kernel_rfl)),⟨.inr (.inr (by kernel_rfl)),trivial⟩⟩⟩) 0 qH rfl rfl hy_49 e_42 rfl wz (bM (v':=(dV (au 0) 2 ((s_21.1.set (0+(s_21.2).toNat) e_39).set (0+((w64 (s_21.2-1))).toNat) e_42))) 0 rfl (bZ (by simp)) (bM (v':=(dV (au 0) 2 ((s_21.1.set (0+(s_21.2).toNat) e_39).set (0+((w64 (s_21.2-1))).toNat) e_42))) 37 rfl (bZ (by simp)) (bM (v':=(dV (au 0) 2 ((s_21.1.set (0+(s_21.2).toNat) e_39).set (0+((w64 (s_21.2-1))).toNat) e_42))) 39 rfl (bZ (by simp)) (bM (v':=(dV (au 0) 2 ((s_21.1.set (0+(s_21.2).toNat) e_39).set (0+((w64 (s_21.2-1))).toNat) e_42))) 42 rfl (bZ (by simp)) (bM (v':=(dV (au 0) 2 ((s_21.1.set (0+(s_21.2).toNat) e_39).set (0+((w64 (s_21.2-1))).toNat) e_42))) 47 rfl (bZ (by simp)) (ai (aa (ae (vI s_21.2) wz rfl (ae (vI (w64 (s_21.2-1))) wz rfl (ae (vI (w64 (s_21.2-1))) wz rfl (ai ?_)))))))))))
        obtain rfl:=ah hc_22
        exact bf (k_16,(((s_21.1.set (0+(s_21.2).toNat) e_39).set (0+((w64 (s_21.2-1))).toNat) e_42),(w64 (s_21.2-1)))) hL_23 (ls_ _) rfl (aL rfl)
       ·refine aA rfl hc_37 (aY ?_)
        obtain rfl:=ah hc_22
        obtain rfl:=ah hL_23
        exact bz ((s_21.1,s_21.2)) rfl rfl (aL rfl)
    ·rintro s_21 ho_ sl_ H_ hp_ hq_
     subst ho_
     refine aQ _ hp_ hq_ (aa (ae (vI s_10.2) wz rfl (ae (vI (w64 (s_10.2+1))) wz rfl (ae (vI (w64 (s_10.2+1))) wz rfl (ai ?_)))))
     obtain rfl:=ah hc_11
     exact bf (k_5,(s_21.1,(w64 (s_10.2+1)))) hL_12 (ls_ _) rfl (aL rfl)
   ·refine aA rfl hc_15 (aY ?_)
    obtain rfl:=ah hc_11
    obtain rfl:=ah hL_12
    exact bz ((s_10.1,s_10.2)) rfl rfl (aL rfl)
 ·rintro s_10 ho_ sl_ H_ hp_ hq_
  subst ho_
  show rf _ _ _ _ _ _ _ _
  obtain rfl:=ah hF
  exact vM (H0:=([((au 0),gB 2 Placed.enc s_10.1)]:Hp)) (sl':=envS []) hq_ (kQ (bs:=([]:List Box)) (os:=([]:List Box)) (xs:=data_1) (o:=gB 2 Placed.enc s_10.1) (.inl rfl) [] trivial rfl rfl rfl rfl rfl (by kernel_rfl) kE rfl)
theorem jb {data_1:(List Placed)} {n_2:Int} {r:(List Placed)} (hF:bO data_1 n_2=some r) :
  FnM Tryz.prog 163 [(dV (au 0) 2 data_1),(vI n_2),(.fn 134 [])] (([]:List Box)++gI 2 Placed.enc data_1) (.tup []) (([]:List Box).map some++gT data_1 (gB 2 Placed.enc r)):=by
 refine FnM.of_wHv ⟨Tryz.prog,63,[],[]⟩ rfl Tryz.func163 rfl rfl (lb_ rfl) (by kernel_rfl) ?_
 unfold bO at hF
 refine af (aa (ae (vI 20) wz rfl (ai (af (aa (ae (vI 20) wz rfl (ae (vI 0) wz rfl (ae (vI 20) wz rfl (ai (af ?_))))))))))
 obtain ⟨o_12,hj_13,hF⟩:=bind_some hF
 obtain ⟨nq_48,hj_13⟩:=dM hj_13
 refine aG (β:=((List Placed)×Int×Int)) (λ(s_9:(List Placed)×Int×Int)=>([(0,(dV (au 0) 2 s_9.1)),(1,(vI n_2)),(2,(.fn 134 [])),(6,(vI 20)),(7,(vI s_9.2.1))]:SL_)) (λ(s_9:(List Placed)×Int×Int)=>([((au 0),gB 2 Placed.enc s_9.1)]:Hp)) (λp=>o_12 = .go p) ?_ ?_
 ·refine ax (bA (β:=Nat×((List Placed)×Int×Int)) (λp=>(λ(k_4:Nat) (s_9:(List Placed)×Int×Int)=>([(0,(dV (au 0) 2 s_9.1)),(1,(vI n_2)),(2,(.fn 134 [])),(6,(vI 20)),(7,(vI s_9.2.1)),(8,(vI s_9.2.2))]:SL_)) p.1 p.2) (λp=>(λ(k_4:Nat) (s_9:(List Placed)×Int×Int)=>([((au 0),gB 2 Placed.enc s_9.1)]:Hp)) p.1 p.2) (λp=>bL (λs=>dw n_2 s) p.1 p.2=some o_12) (λp=>p.1) (nq_48,(data_1,0,20)) hj_13 rfl (aL rfl) ?_)
  rintro ⟨k_4,s_9⟩ hL_11
  dsimp only at hL_11
  cases k_4 with
  | zero=>cases hL_11
  | succ k_4 =>
   obtain ⟨c_,hc_10,hL_11⟩:=bind_some hL_11
   unfold dw at hc_10
   refine af (af (aa (ae (vI s_9.2.2) wz rfl (ae (vI n_2) wz rfl (ae (vB (decide (s_9.2.2<=n_2))) wz rfl (ai ?_))))))
   rcases ak hc_10 with⟨hc_14,hc_10⟩|⟨hc_14,hc_10⟩
   ·refine ay rfl hc_14 (av (ax (af (aa (ae (dV (au 0) 2 s_9.1) wz rfl (ae (vI s_9.2.1) wz rfl (ae (vI s_9.2.2) wz rfl (ae (.fn 134 []) wz rfl ?_))))))))
    obtain ⟨r_15,hr_16,hc_10⟩:=bind_some hc_10
    obtain ⟨_,hs_17,hc_10⟩:=bind_some hc_10
    replace hs_17:=jG hs_17
    refine jM 0 [] 0 0 il ft (dW hr_16) rfl hb203 rfl rfl rfl (by kernel_rfl) rfl (.inr (.inl rfl)) rfl (by kernel_rfl) (by kernel_rfl) (by kernel_rfl) (by kernel_rfl) rfl (by decide) (by kernel_rfl) kE (pQ hs_17) wz ([((au 0),gB 2 Placed.enc r_15)]:Hp) (by kernel_rfl) (bM (v':=(dV (au 0) 2 r_15)) 0 rfl (bZ hs_17.symm) (bM (v':=(dV (au 0) 2 r_15)) 14 rfl (bZ hs_17.symm) (ai (af (aa (ae (vI s_9.2.2) wz rfl (ae (vI s_9.2.2) wz rfl (ai (aa (ae (vI s_9.2.2) wz rfl (ae (vI 20) wz rfl (ae (vI (w64 (s_9.2.2+20))) wz rfl (ae (vI (w64 (s_9.2.2+20))) wz rfl (ai ?_))))))))))))))
    obtain rfl:=ah hc_10
    exact bf (k_4,(r_15,s_9.2.2,(w64 (s_9.2.2+20)))) hL_11 (ls_ _) rfl (aL rfl)
   ·refine aA rfl hc_14 (aY ?_)
    obtain rfl:=ah hc_10
    obtain rfl:=ah hL_11
    exact bz ((s_9.1,s_9.2.1,s_9.2.2)) rfl rfl (aL rfl)
 ·rintro s_9 ho_ sl_ H_ hp_ hq_
  subst ho_
  refine aQ _ hp_ hq_ (af (aa (ae (dV (au 0) 2 s_9.1) wz rfl (ae (vI s_9.2.1) wz rfl (ae (vI n_2) wz rfl (ae (.fn 134 []) wz rfl ?_))))))
  obtain ⟨r_18,hr_19,hF⟩:=bind_some hF
  obtain ⟨_,hs_20,hF⟩:=bind_some hF
  replace hs_20:=jG hs_20
  refine jM 0 [] 0 0 il ft (dW hr_19) rfl hb203 rfl rfl rfl (by kernel_rfl) rfl (.inr (.inl rfl)) rfl (by kernel_rfl) (by kernel_rfl) (by kernel_rfl) (by kernel_rfl) rfl (by decide) (by kernel_rfl) kE (pQ hs_20) wz ([((au 0),gB 2 Placed.enc r_18)]:Hp) (by kernel_rfl) (bM (v':=(dV (au 0) 2 r_18)) 0 rfl (bZ hs_20.symm) (bM (v':=(dV (au 0) 2 r_18)) 23 rfl (bZ hs_20.symm) (ai ?_)))
  obtain ⟨o_29,hj_30,hF⟩:=bind_some hF
  obtain ⟨nq_47,hj_30⟩:=dM hj_30
  refine aG (β:=(Int)) (λ(s_26:Int)=>([]:SL_)) (λ(s_26:Int)=>([((au 0),gB 2 Placed.enc r_18)]:Hp)) (λp=>o_29 = .go p) ?_ ?_
  ·refine ax (bA (β:=Nat×(Int)) (λp=>(λ(k_21:Nat) (s_26:Int)=>([(0,(dV (au 0) 2 r_18)),(1,(vI n_2)),(2,(.fn 134 [])),(6,(vI s_26))]:SL_)) p.1 p.2) (λp=>(λ(k_21:Nat) (s_26:Int)=>([((au 0),gB 2 Placed.enc r_18)]:Hp)) p.1 p.2) (λp=>bL (λs=>dz n_2 s) p.1 p.2=some o_29) (λp=>p.1) (nq_47,20) hj_30 rfl (aL rfl) ?_)
   rintro ⟨k_21,s_26⟩ hL_28
   dsimp only at hL_28
   cases k_21 with
   | zero=>cases hL_28
   | succ k_21 =>
    obtain ⟨c_,hc_27,hL_28⟩:=bind_some hL_28
    unfold dz at hc_27
    refine af (af (aa (ae (vI s_26) wz rfl (ae (vI n_2) wz rfl (ae (vB (decide (s_26<n_2))) wz rfl (ai ?_))))))
    rcases ak hc_27 with⟨hc_31,hc_27⟩|⟨hc_31,hc_27⟩
    ·refine ay rfl hc_31 (av (ax (af (aa (ae (vI s_26) wz rfl (ae (vI (w64 (2*s_26))) wz rfl (ae (vI 0) wz rfl (ae (vI (w64 (2*s_26))) wz rfl (ai (af ?_))))))))))
     obtain ⟨o_40,hj_41,hc_27⟩:=bind_some hc_27
     obtain ⟨nq_46,hj_41⟩:=dM hj_41
     refine aG (β:=(Unit)) (λ(s_37:Unit)=>([(0,(dV (au 0) 2 r_18)),(1,(vI n_2)),(2,(.fn 134 [])),(6,(vI s_26)),(7,(vI 0))]:SL_)) (λ(s_37:Unit)=>([((au 0),gB 2 Placed.enc r_18)]:Hp)) (λp=>o_40 = .go p) ?_ ?_
     ·refine ax (bA (β:=Nat×(Unit)) (λp=>(λ(k_32:Nat) (s_37:Unit)=>([(0,(dV (au 0) 2 r_18)),(1,(vI n_2)),(2,(.fn 134 [])),(6,(vI s_26)),(7,(vI 0)),(8,(vI (w64 (2*s_26))))]:SL_)) p.1 p.2) (λp=>(λ(k_32:Nat) (s_37:Unit)=>([((au 0),gB 2 Placed.enc r_18)]:Hp)) p.1 p.2) (λp=>bL (λs=>dn s_26 n_2 s) p.1 p.2=some o_40) (λp=>p.1) (nq_46,()) hj_41 rfl (aL rfl) ?_)
      rintro ⟨k_32,s_37⟩ hL_39
      dsimp only at hL_39
      cases k_32 with
      | zero=>cases hL_39
      | succ k_32 =>
       obtain ⟨c_,hc_38,hL_39⟩:=bind_some hL_39
       unfold dn at hc_38
       refine af (af (aa (ae (vI (w64 (2*s_26))) wz rfl (ae (vI n_2) wz rfl (ae (vB (decide ((w64 (2*s_26))<=n_2))) wz rfl (ai ?_))))))
       rcases ak hc_38 with⟨hc_42,hc_38⟩|⟨hc_42,hc_38⟩
       ·refine ay rfl hc_42 (av (ax (af (aa (ae (dV (au 0) 2 r_18) wz rfl (ae (vI 0) wz rfl (ae (vI 0) wz rfl (ae (vI s_26) wz rfl (ae (vI (w64 (0+s_26))) wz rfl (ae (vI (w64 (2*s_26))) wz rfl (ae (.fn 134 []) wz rfl ?_)))))))))))
        cases hc_38
       ·refine aA rfl hc_42 (aY ?_)
        obtain rfl:=ah hc_38
        obtain rfl:=ah hL_39
        exact bz (()) rfl rfl (aL rfl)
     ·rintro s_37 ho_ sl_ H_ hp_ hq_
      subst ho_
      refine aQ _ hp_ hq_ (af (af (aa (ae (vI 0) wz rfl (ae (vI s_26) wz rfl (ae (vI (w64 (0+s_26))) wz rfl (ae (vI (w64 (0+s_26))) wz rfl (ai (af (aa (ae (vI (w64 (0+s_26))) wz rfl (ae (vI n_2) wz rfl (ae (vB (decide ((w64 (0+s_26))<n_2))) wz rfl (ai ?_))))))))))))))
      obtain ⟨v_43,h_44,hc_27⟩:=bind_some hc_27
      refine aG (β:=Unit) (λ_=>([(0,(dV (au 0) 2 r_18)),(1,(vI n_2)),(2,(.fn 134 [])),(6,(vI s_26))]:SL_)) (λ_=>([((au 0),gB 2 Placed.enc r_18)]:Hp)) (λ_=>True) ?_ ?_
      ·rcases ak h_44 with⟨hc_45,h_44⟩|⟨hc_45,h_44⟩
       ·refine ay rfl hc_45 (aa (ae (dV (au 0) 2 r_18) wz rfl (ae (vI 0) wz rfl (ae (vI (w64 (0+s_26))) wz rfl (ae (vI n_2) wz rfl (ae (.fn 134 []) wz rfl ?_))))))
        cases h_44
       ·refine aA rfl hc_45 (av ?_)
        obtain rfl:=ah h_44
        exact cu
      ·rintro ⟨⟩ _ sl_ H_ hp_ hq_
       refine aQ _ hp_ hq_ (aa (ae (vI s_26) wz rfl (ae (vI (w64 (s_26*2))) wz rfl (ae (vI (w64 (s_26*2))) wz rfl (ai ?_)))))
       obtain rfl:=ah hc_27
       exact bf (k_21,(w64 (s_26*2))) hL_28 (ls_ _) rfl (aL rfl)
    ·refine aA rfl hc_31 (aY ?_)
     obtain rfl:=ah hc_27
     obtain rfl:=ah hL_28
     exact bz (s_26) rfl rfl (aL rfl)
  ·rintro s_26 ho_ sl_ H_ hp_ hq_
   subst ho_
   show rf _ _ _ _ _ _ _ _
   obtain rfl:=ah hF
   exact vM (H0:=([((au 0),gB 2 Placed.enc r_18)]:Hp)) (sl':=envS []) hq_ (kQ (bs:=([]:List Box)) (os:=([]:List Box)) (xs:=data_1) (o:=gB 2 Placed.enc r_18) (.inl rfl) [] trivial rfl rfl rfl rfl rfl (by kernel_rfl) kE rfl)
theorem fJ {x_1:(List Placed)} {r:(List Placed)} (hF:aN x_1=some r) :
  FnM Tryz.prog 133 [(dV (au 0) 2 x_1),(.fn 134 [])] (([]:List Box)++gI 2 Placed.enc x_1) (.tup []) (([]:List Box).map some++gT x_1 (gB 2 Placed.enc r)):=by
 refine FnM.of_wHv ⟨Tryz.prog,9,[],[]⟩ rfl Tryz.func133 rfl rfl (lb_ rfl) (by kernel_rfl) ?_
 unfold aN at hF
 refine aa (ae (dV (au 0) 2 x_1) wz rfl (ae (dV (au 0) 2 x_1) wz rfl (zU un123 rfl wz (ae (.fn 134 []) wz rfl ?_))))
 obtain ⟨r_3,hr_4,hF⟩:=bind_some hF
 obtain ⟨_,hs_5,hF⟩:=bind_some hF
 replace hs_5:=jG hs_5
 refine jM 0 [] 0 0 il ft (jb hr_4) rfl hb163 rfl rfl rfl (by kernel_rfl) rfl (.inr (.inl rfl)) rfl (by kernel_rfl) (by kernel_rfl) (by kernel_rfl) (by kernel_rfl) rfl (by decide) (by kernel_rfl) kE (pQ hs_5) wz ([((au 0),gB 2 Placed.enc r_3)]:Hp) (by kernel_rfl) (bM (v':=(dV (au 0) 2 r_3)) 0 rfl (bZ hs_5.symm) (bM (v':=(dV (au 0) 2 r_3)) 4 rfl (bZ hs_5.symm) (bM (v':=(dV (au 0) 2 r_3)) 5 rfl (bZ hs_5.symm) (ai ?_))))
 show rf _ _ _ _ _ _ _ _
 obtain rfl:=ah hF
 exact kQ (bs:=([]:List Box)) (os:=([]:List Box)) (xs:=x_1) (o:=gB 2 Placed.enc r_3) (.inl rfl) [] trivial rfl rfl rfl rfl rfl (by kernel_rfl) kE rfl
theorem rO {l_1:(List Log_)} {fromv_2:Int} {tov_3:Int} {b_4:(List Beat)} {r:(List Placed)×(List Int)} (hF:jm l_1 fromv_2 tov_3 b_4=some r) :
  FnM Tryz.prog 101 [(vL Log_.enc l_1),(vI fromv_2),(vI tov_3),(vL Beat.enc b_4)] [] (.tup [(vL Placed.enc r.1),(vL eI r.2)]) []:=by
 refine FnM.of_wH ⟨Tryz.prog,68,[],[]⟩ rfl Tryz.func101 rfl rfl (lb_ rfl) (by kernel_rfl) ?_
 unfold jm at hF
 refine af (aa (ae .nil wz rfl (ae .nil wz rfl (ai (af (aa (ae (vL Beat.enc b_4) wz rfl (ae (vL Log_.enc l_1) wz rfl (ae (vI fromv_2) wz rfl ?_)))))))))
 obtain ⟨y_5,hy_6,hF⟩:=bind_some hF
 refine fH nU rfl rfl hy_6 rfl wz (kg iJ rfl [.str y_5.Player,.str y_5.Item,.int .i64 y_5.No,.int .i64 y_5.Clock,.int .i64 y_5.Long,.str y_5.Sum] rfl rfl wz (cO sz9 ag9 rfl (vS y_5.Player) rfl wz ?_))
 obtain ⟨r_7,hr_8,hF⟩:=bind_some hF
 refine aH (nZ hr_8) rfl hb131 rfl rfl rfl rfl wz (ae (vL Beat_.enc r_7) wz rfl (ai (af (aa (ae .nil wz rfl (ai (af (aa (ae .nil wz rfl (ai (af (af (aa (ae (vI fromv_2) wz rfl (ae (vI fromv_2) wz rfl (ai (lJ (λn_15=>lJ (λn_16 => ?_)))))))))))))))))))
 obtain ⟨o_23,hj_24,hF⟩:=bind_some hF
 obtain ⟨nq_50,hj_24⟩:=dM hj_24
 refine aG (β:=((List Placed)×(List Int)×Int)×Nm×Nm) (λp=>(λ(s_14:(List Placed)×(List Int)×Int) (n_19:Nm) (n_20:Nm)=>([(11,(gV n_19 2 s_14.1)),(12,(gV n_20 1 s_14.2.1))]:SL_)) p.1 p.2.1 p.2.2) (λp=>(λ(s_14:(List Placed)×(List Int)×Int) (n_19:Nm) (n_20:Nm)=>([(n_19,gB 2 Placed.enc s_14.1),(n_20,gB 1 eI s_14.2.1)]:Hp)) p.1 p.2.1 p.2.2) (λp=>o_23 = .go p.1) ?_ ?_
 ·refine ax (bA (β:=Nat×((List Placed)×(List Int)×Int)×Nm×Nm) (λp=>(λ(k_9:Nat) (s_14:(List Placed)×(List Int)×Int) (n_19:Nm) (n_20:Nm)=>([(0,(vL Log_.enc l_1)),(2,(vI tov_3)),(10,(vL Beat_.enc r_7)),(11,(gV n_19 2 s_14.1)),(12,(gV n_20 1 s_14.2.1)),(13,(vI s_14.2.2))]:SL_)) p.1 p.2.1 p.2.2.1 p.2.2.2) (λp=>(λ(k_9:Nat) (s_14:(List Placed)×(List Int)×Int) (n_19:Nm) (n_20:Nm)=>([(n_19,gB 2 Placed.enc s_14.1),(n_20,gB 1 eI s_14.2.1)]:Hp)) p.1 p.2.1 p.2.2.1 p.2.2.2) (λp=>bL (λs=>dR tov_3 l_1 r_7 s) p.1 p.2.1=some o_23) (λp=>p.1) (nq_50,(([]:List Placed),([]:List Int),fromv_2),n_15,n_16) hj_24 rfl (aL rfl) ?_)
  rintro ⟨k_9,s_14,n_19,n_20⟩ hL_22
  dsimp only at hL_22
  cases k_9 with
  | zero=>cases hL_22
  | succ k_9 =>
   obtain ⟨c_,hc_21,hL_22⟩:=bind_some hL_22
   unfold dR at hc_21
   refine af (af (aa (ae (vI s_14.2.2) wz rfl (ae (vI tov_3) wz rfl (ae (vB (decide (s_14.2.2<tov_3))) wz rfl (ai ?_))))))
   rcases ak hc_21 with⟨hc_25,hc_21⟩|⟨hc_25,hc_21⟩
   ·refine ay rfl hc_25 (av (af (ax (af (aa (ae (vL Beat_.enc r_7) wz rfl (ae (vL Log_.enc l_1) wz rfl (ae (vI s_14.2.2) wz rfl ?_))))))))
    obtain ⟨y_26,hy_27,hc_21⟩:=bind_some hc_21
    refine fH nU rfl rfl hy_27 rfl wz (kg ou rfl [.int .i64 y_26.Clock,.int .i64 y_26.Long,.str y_26.Sum] rfl rfl wz (cO sz3 ag3 rfl (vI y_26.Clock) rfl wz ?_))
    obtain ⟨r_28,hr_29,hc_21⟩:=bind_some hc_21
    refine aH (oP hr_29) rfl hb132 rfl rfl rfl rfl wz (ae (.tup [(vI r_28.1),(vI r_28.2)]) wz rfl (ae (vI r_28.1) wz rfl (ae (vI r_28.2) wz rfl (ae (vI r_28.1) wz rfl (ae (vI r_28.2) wz rfl (ai (af (aa (ae (vI r_28.2) wz rfl (ai (ax (af (aa (ae (vB (r_28.2==0)) wz rfl (ae (vB (r_28.2==0)) wz rfl (ai ?_))))))))))))))))
    obtain ⟨v_30,h_31,hc_21⟩:=bind_some hc_21
    refine aG (β:=Nm×Nm) (λp=>(λ(n_32:Nm) (n_33:Nm)=>([(0,(vL Log_.enc l_1)),(2,(vI tov_3)),(10,(vL Beat_.enc r_7)),(11,(gV n_32 2 v_30.1)),(12,(gV n_33 1 v_30.2)),(13,(vI s_14.2.2))]:SL_)) p.1 p.2) (λp=>(λ(n_32:Nm) (n_33:Nm)=>([(n_32,gB 2 Placed.enc v_30.1),(n_33,gB 1 eI v_30.2)]:Hp)) p.1 p.2) (λ_=>True) ?_ ?_
    ·rcases ak h_31 with⟨hc_34,h_31⟩|⟨hc_34,h_31⟩
     ·refine ay rfl hc_34 (aa (ae (gV n_19 2 s_14.1) wz rfl (ae (vI s_14.2.2) wz rfl (ae (vI r_28.1) wz rfl (ae (.d (.agg (Placed.enc (⟨s_14.2.2,r_28.1⟩:Placed)))) wz (by kernel_rfl) (fw (([(⟨s_14.2.2,r_28.1⟩:Placed)]:List Placed).map Placed.enc) sM ez123 rfl rfl rfl rfl rfl wz ?_))))))
      obtain ⟨a_35,hz_36,h_31⟩:=bind_some h_31
      refine jC 0 il ft (i:=0) DR DR qH z127 rfl (by decide) by127 (by decide) (λ_=>rfl) rfl rfl rfl hz_36 wz (λn_37=>ae (gV n_37 2 a_35) wz rfl (ai ?_))
      obtain rfl:=ah h_31
      exact bz (n_37,n_20) trivial rfl (aL rfl)
     ·refine aA rfl hc_34 (af (aa (ae (vB (r_28.2==8)) wz rfl (ae (vB (r_28.2==8)) wz rfl (ai ?_)))))
      rcases ak h_31 with⟨hc_38,h_31⟩|⟨hc_38,h_31⟩
      ·refine ay rfl hc_38 (aa (ae (gV n_19 2 s_14.1) wz rfl (ae (vI s_14.2.2) wz rfl (ae (vL Log_.enc l_1) wz rfl (ae (vI s_14.2.2) wz rfl ?_)))))
       obtain ⟨y_39,hy_40,h_31⟩:=bind_some h_31
       refine fH nU rfl rfl hy_40 rfl wz (kg ou rfl [.int .i64 y_39.Clock,.int .i64 y_39.Long,.str y_39.Sum] rfl rfl wz (cO sz3 ag3 rfl (vI y_39.Clock) rfl wz (ae (.d (.agg (Placed.enc (⟨s_14.2.2,y_39.Clock⟩:Placed)))) wz (by kernel_rfl) (fw (([(⟨s_14.2.2,y_39.Clock⟩:Placed)]:List Placed).map Placed.enc) sM ez123 rfl rfl rfl rfl rfl wz ?_))))
       obtain ⟨a_41,hz_42,h_31⟩:=bind_some h_31
       refine jC 0 il ft (i:=0) DR DR qH z127 rfl (by decide) by127 (by decide) (λ_=>rfl) rfl rfl rfl hz_42 wz (λn_43=>ae (gV n_43 2 a_41) wz rfl (ai ?_))
       obtain rfl:=ah h_31
       exact bz (n_43,n_20) trivial rfl (aL rfl)
      ·refine aA rfl hc_38 (aa (ae (gV n_20 1 s_14.2.1) wz rfl (ae (vI s_14.2.2) wz rfl (fw (([s_14.2.2]:List Int).map eI) oC ut rfl rfl rfl rfl rfl wz ?_))))
       obtain ⟨a_44,hz_45,h_31⟩:=bind_some h_31
       refine jC 0 il ft (i:=1) yu yu sz3 z3 rfl (by decide) by3 (by decide) (λ_=>rfl) rfl rfl rfl hz_45 wz (λn_46=>ae (gV n_46 1 a_44) wz rfl (ai ?_))
       obtain rfl:=ah h_31
       exact bz (n_19,n_46) trivial rfl (aL rfl)
    ·rintro ⟨n_32,n_33⟩ _ sl_ H_ hp_ hq_
     refine aQ _ hp_ hq_ (aa (ae (vI s_14.2.2) wz rfl (ae (vI (w64 (s_14.2.2+1))) wz rfl (ae (vI (w64 (s_14.2.2+1))) wz rfl (ai ?_)))))
     obtain rfl:=ah hc_21
     exact bf (k_9,(v_30.1,v_30.2,(w64 (s_14.2.2+1))),n_32,n_33) hL_22 (ls_ _) rfl (aL rfl)
   ·refine aA rfl hc_25 (aY ?_)
    obtain rfl:=ah hc_21
    obtain rfl:=ah hL_22
    exact bz ((s_14.1,s_14.2.1,s_14.2.2),n_19,n_20) rfl rfl (aL rfl)
 ·rintro ⟨s_14,n_19,n_20⟩ ho_ sl_ H_ hp_ hq_
  subst ho_
  refine aQ _ hp_ hq_ (af (aa (ae (gV n_19 2 s_14.1) wz rfl ?_)))
  obtain ⟨r_47,hr_48,hF⟩:=bind_some hF
  obtain ⟨_,hs_49,hF⟩:=bind_some hF
  replace hs_49:=jG hs_49
  refine jM 0 [] 0 0 il ft (fJ hr_48) rfl hb133 rfl rfl rfl (by kernel_rfl) rfl (.inl rfl) rfl (by kernel_rfl) (by kernel_rfl) (by kernel_rfl) (by kernel_rfl) rfl (by decide) (by kernel_rfl) kE (pQ hs_49) wz ([(n_19,gB 2 Placed.enc r_47),(n_20,gB 1 eI s_14.2.1)]:Hp) (by kernel_rfl) (bM (v':=(gV n_19 2 r_47)) 11 rfl (bH hs_49.symm) (bM (v':=(gV n_19 2 r_47)) 64 rfl (bH hs_49.symm) (ai (af (aa (ae (gV n_19 2 r_47) wz rfl (ae (gV n_20 1 s_14.2.1) wz rfl (ae (gV n_19 2 r_47) wz rfl (ae (gV n_20 1 s_14.2.1) wz rfl (ai (iR 0 rfl (dS 8 0 rfl rfl (dS 11 0 rfl rfl (dS 64 0 rfl rfl (dS 66 0 rfl rfl (iR 1 rfl (dS 9 1 rfl rfl (dS 12 1 rfl rfl (dS 67 1 rfl rfl ?_)))))))))))))))))))
  obtain rfl:=ah hF
  exact aB (bu (.inr rfl) [(vL Placed.enc r_47),(vL eI s_14.2.1)] ⟨rfl,⟨rfl,trivial⟩⟩ rfl rfl rfl)
theorem jy {x r:(List Int)} (hF:bD x=some r) :
  FnM Tryz.prog 103 [(dV (au 0) 1 x)] (([]:List Box)++gI 1 eI x) (.tup []) (([]:List Box).map some++gT x (gB 1 eI r)) :=
 FX Tryz.slices_Sort_int Tryz.slices_Sort_int_none hF
theorem xN {l_1:(List Log_)} {b_2:(List Beat)} {r:(List Play)×(List Int)×Int} (hF:gL l_1 b_2=some r) :
  FnM Tryz.prog 53 [(vL Log_.enc l_1),(vL Beat.enc b_2)] [] (.tup [(vL Play.enc r.1),(vL eI r.2.1),(vI r.2.2)]) []:=by
 refine FnM.of_wH ⟨Tryz.prog,118,[],[]⟩ rfl Tryz.func53 rfl rfl (lb_ rfl) (by kernel_rfl) ?_
 unfold gL at hF
 refine af (aa (ae .nil wz rfl (ae .nil wz rfl (ae (vI 0) wz rfl (ai (af (af (aa (ae (vL Log_.enc l_1) wz rfl ?_)))))))))
 obtain ⟨r_3,hr_4,hF⟩:=bind_some hF
 refine aH (q8 hr_4) rfl hb39 rfl rfl rfl rfl wz (ae (vI r_3) wz rfl (ai (af (aa (ae (vI r_3) wz rfl (ae (vB (r_3 != 0)) wz rfl (ai ?_)))))))
 rcases ak hF with⟨hc_5,hF⟩|⟨hc_5,hF⟩
 ·refine ay rfl hc_5 (af (aa (ae (vI r_3) wz rfl (ae .nil wz rfl (ae .nil wz rfl (ae (vI r_3) wz rfl (ai ?_)))))))
  obtain rfl:=ah hF
  exact aB (bu (.inr rfl) [.nil,.nil,(vI r_3)] ⟨rfl,⟨rfl,⟨rfl,trivial⟩⟩⟩ rfl rfl rfl)
 ·refine aA rfl hc_5 (av (af (af (aa (ae (vL Beat.enc b_2) wz rfl ?_)))))
  obtain ⟨r_6,hr_7,hF⟩:=bind_some hF
  refine aH (lM hr_7) rfl hb100 rfl rfl rfl rfl wz (ae (vI r_6) wz rfl (ai (af (aa (ae (vI r_6) wz rfl (ae (vB (r_6 != 0)) wz rfl (ai ?_)))))))
  rcases ak hF with⟨hc_8,hF⟩|⟨hc_8,hF⟩
  ·refine ay rfl hc_8 (af (aa (ae (vI r_6) wz rfl (ae .nil wz rfl (ae .nil wz rfl (ae (vI r_6) wz rfl (ai ?_)))))))
   obtain rfl:=ah hF
   exact aB (bu (.inr rfl) [.nil,.nil,(vI r_6)] ⟨rfl,⟨rfl,⟨rfl,trivial⟩⟩⟩ rfl rfl rfl)
  ·refine aA rfl hc_8 (av (af (aa (ae .nil wz rfl (ai (af (aa (ae .nil wz rfl (ai (af (af (aa (ae (vI 0) wz rfl (ae (vI 0) wz rfl (ai (lJ (λn_15=>lJ (λn_16 => ?_))))))))))))))))))
   obtain ⟨o_23,hj_24,hF⟩:=bind_some hF
   obtain ⟨nq_83,hj_24⟩:=dM hj_24
   refine aG (β:=((List Play)×(List Int)×Int)×Nm×Nm) (λp=>(λ(s_14:(List Play)×(List Int)×Int) (n_19:Nm) (n_20:Nm)=>([(9,(gV n_19 4 s_14.1)),(10,(gV n_20 1 s_14.2.1))]:SL_)) p.1 p.2.1 p.2.2) (λp=>(λ(s_14:(List Play)×(List Int)×Int) (n_19:Nm) (n_20:Nm)=>([(n_19,gB 4 Play.enc s_14.1),(n_20,gB 1 eI s_14.2.1)]:Hp)) p.1 p.2.1 p.2.2) (λp=>o_23 = .go p.1) ?_ ?_
   ·refine ax (bA (β:=Nat×((List Play)×(List Int)×Int)×Nm×Nm) (λp=>(λ(k_9:Nat) (s_14:(List Play)×(List Int)×Int) (n_19:Nm) (n_20:Nm)=>([(0,(vL Log_.enc l_1)),(1,(vL Beat.enc b_2)),(9,(gV n_19 4 s_14.1)),(10,(gV n_20 1 s_14.2.1)),(11,(vI s_14.2.2))]:SL_)) p.1 p.2.1 p.2.2.1 p.2.2.2) (λp=>(λ(k_9:Nat) (s_14:(List Play)×(List Int)×Int) (n_19:Nm) (n_20:Nm)=>([(n_19,gB 4 Play.enc s_14.1),(n_20,gB 1 eI s_14.2.1)]:Hp)) p.1 p.2.1 p.2.2.1 p.2.2.2) (λp=>bL (λs=>fC l_1 b_2 s) p.1 p.2.1=some o_23) (λp=>p.1) (nq_83,(([]:List Play),([]:List Int),0),n_15,n_16) hj_24 rfl (aL rfl) ?_)
    rintro ⟨k_9,s_14,n_19,n_20⟩ hL_22
    dsimp only at hL_22
    cases k_9 with
    | zero=>cases hL_22
    | succ k_9 =>
     obtain ⟨c_,hc_21,hL_22⟩:=bind_some hL_22
     unfold fC at hc_21
     refine af (af (aa (ae (vI s_14.2.2) wz rfl (ae (vL Log_.enc l_1) wz rfl (eY tu rfl wz (ae (vB (decide (s_14.2.2<(l_1.length:Int)))) wz rfl (ai ?_)))))))
     rcases ak hc_21 with⟨hc_25,hc_21⟩|⟨hc_25,hc_21⟩
     ·refine ay rfl hc_25 (av (af (ax (af (af (aa (ae (vI s_14.2.2) wz rfl (ae (vI s_14.2.2) wz rfl (ai ?_)))))))))
      obtain ⟨o_34,hj_35,hc_21⟩:=bind_some hc_21
      obtain ⟨nq_79,hj_35⟩:=dM hj_35
      refine aG (β:=(Int)) (λ(s_31:Int)=>([(0,(vL Log_.enc l_1)),(1,(vL Beat.enc b_2)),(9,(gV n_19 4 s_14.1)),(10,(gV n_20 1 s_14.2.1)),(11,(vI s_14.2.2)),(12,(vI s_31))]:SL_)) (λ(s_31:Int)=>([(n_19,gB 4 Play.enc s_14.1),(n_20,gB 1 eI s_14.2.1)]:Hp)) (λp=>o_34 = .go p) ?_ ?_
      ·refine ax (bA (β:=Nat×(Int)) (λp=>(λ(k_26:Nat) (s_31:Int)=>([(0,(vL Log_.enc l_1)),(1,(vL Beat.enc b_2)),(9,(gV n_19 4 s_14.1)),(10,(gV n_20 1 s_14.2.1)),(11,(vI s_14.2.2)),(12,(vI s_31))]:SL_)) p.1 p.2) (λp=>(λ(k_26:Nat) (s_31:Int)=>([(n_19,gB 4 Play.enc s_14.1),(n_20,gB 1 eI s_14.2.1)]:Hp)) p.1 p.2) (λp=>bL (λs=>fA l_1 s_14 s) p.1 p.2=some o_34) (λp=>p.1) (nq_79,s_14.2.2) hj_35 rfl (aL rfl) ?_)
       rintro ⟨k_26,s_31⟩ hL_33
       dsimp only at hL_33
       cases k_26 with
       | zero=>cases hL_33
       | succ k_26 =>
        obtain ⟨c_,hc_32,hL_33⟩:=bind_some hL_33
        unfold fA at hc_32
        refine af (af ?_)
        obtain ⟨v_36,h_37,hc_32⟩:=bind_some hc_32
        refine aG (β:=Unit) (λ_=>([(0,(vL Log_.enc l_1)),(1,(vL Beat.enc b_2)),(9,(gV n_19 4 s_14.1)),(10,(gV n_20 1 s_14.2.1)),(11,(vI s_14.2.2)),(12,(vI s_31)),(53,(vB v_36))]:SL_)) (λ_=>([(n_19,gB 4 Play.enc s_14.1),(n_20,gB 1 eI s_14.2.1)]:Hp)) (λ_=>True) ?_ ?_
        ·refine bK (ae (vI s_31) wz rfl (ae (vL Log_.enc l_1) wz rfl (eY tu rfl wz (ae (vB (decide (s_31<(l_1.length:Int)))) wz rfl ?_))))
         rcases ak h_37 with⟨hc_38,h_37⟩|⟨hc_38,h_37⟩
         ·refine aC rfl hc_38 wz (ae (vL Log_.enc l_1) wa rfl (ae (vI s_31) wa rfl ?_))
          obtain ⟨y_39,hy_40,h_37⟩:=bind_some h_37
          refine fH nU rfl rfl hy_40 rfl wa (kg iJ rfl [.str y_39.Player,.str y_39.Item,.int .i64 y_39.No,.int .i64 y_39.Clock,.int .i64 y_39.Long,.str y_39.Sum] rfl rfl wa (cO sz9 ag9 rfl (vS y_39.Player) rfl wa (ae (vL Log_.enc l_1) wa rfl (ae (vI s_14.2.2) wa rfl ?_))))
          obtain ⟨y_41,hy_42,h_37⟩:=bind_some h_37
          refine fH nU rfl rfl hy_42 rfl wa (kg iJ rfl [.str y_41.Player,.str y_41.Item,.int .i64 y_41.No,.int .i64 y_41.Clock,.int .i64 y_41.Long,.str y_41.Sum] rfl rfl wa (cO sz9 ag9 rfl (vS y_41.Player) rfl wa (ae (vB (sEq y_39.Player y_41.Player)) wa rfl (ae (vB (sEq y_39.Player y_41.Player)) wz rfl (ai ?_)))))
          obtain rfl:=ah h_37
          exact cu
         ·refine aC rfl hc_38 wz (aj wa (aj wa (aj wa (aj wa (aj wa (aj wa (aj wa (aj wa (aj wa (aj wa (aj wa (ae (vB false) wz rfl (ai ?_)))))))))))))
          obtain rfl:=ah h_37
          exact cu
        ·rintro ⟨⟩ _ sl_ H_ hp_ hq_
         refine aQ _ hp_ hq_ ?_
         rcases ak hc_32 with⟨hc_43,hc_32⟩|⟨hc_43,hc_32⟩
         ·refine ay rfl hc_43 (av (ax (aa (ae (vI s_31) wz rfl (ae (vI (w64 (s_31+1))) wz rfl (ae (vI (w64 (s_31+1))) wz rfl (ai ?_)))))))
          obtain rfl:=ah hc_32
          exact bf (k_26,(w64 (s_31+1))) hL_33 (ls_ _) rfl (aL rfl)
         ·refine aA rfl hc_43 (aY ?_)
          obtain rfl:=ah hc_32
          obtain rfl:=ah hL_33
          exact bz (s_31) rfl rfl (aL rfl)
      ·rintro s_31 ho_ sl_ H_ hp_ hq_
       subst ho_
       refine aQ _ hp_ hq_ (af (aa (ae (vL Log_.enc l_1) wz rfl (ae (vI s_14.2.2) wz rfl (ae (vI s_31) wz rfl (ae (vL Beat.enc b_2) wz rfl ?_))))))
       obtain ⟨r_44,hr_45,hc_21⟩:=bind_some hc_21
       refine aH (rO hr_45) rfl hb101 rfl rfl rfl rfl wz (ae (.tup [(vL Placed.enc r_44.1),(vL eI r_44.2)]) wz rfl (ae (vL Placed.enc r_44.1) wz rfl (ae (vL eI r_44.2) wz rfl (ae (vL Placed.enc r_44.1) wz rfl (ae (vL eI r_44.2) wz rfl (ai (af (aa (ae (gV n_20 1 s_14.2.1) wz rfl (ae (vL eI r_44.2) wz rfl ?_))))))))))
       obtain ⟨a_46,hz_47,hc_21⟩:=bind_some hc_21
       refine jC 0 il ft (i:=1) yu yu sz3 z3 rfl (by decide) by3 (by decide) (λ_=>rfl) rfl rfl rfl hz_47 wz (λn_48=>ae (gV n_48 1 a_46) wz rfl (ai (af (aa (ae (vI 0) wz rfl (ai (af (aa (ae (vL Placed.enc r_44.1) wz rfl (eY un123 rfl wz (ae (vI 0) wz rfl (ai ?_))))))))))))
       obtain ⟨o_61,hj_62,hc_21⟩:=bind_some hc_21
       obtain ⟨hn_53,hj_62⟩:=bX hj_62
       refine aG (β:=((List Play)×(List Int)×Int)×Nm×Nm) (λp=>(λ(s_54:(List Play)×(List Int)×Int) (n_57:Nm) (n_58:Nm)=>([(0,(vL Log_.enc l_1)),(1,(vL Beat.enc b_2)),(9,(gV n_57 4 s_54.1)),(10,(gV n_58 1 s_54.2.1)),(12,(vI s_31))]:SL_)) p.1 p.2.1 p.2.2) (λp=>(λ(s_54:(List Play)×(List Int)×Int) (n_57:Nm) (n_58:Nm)=>([(n_57,gB 4 Play.enc s_54.1),(n_58,gB 1 eI s_54.2.1)]:Hp)) p.1 p.2.1 p.2.2) (λp=>o_61 = .go p.1) ?_ ?_
       ·refine ax (bA (β:=Nat×(List Placed)×((List Play)×(List Int)×Int)×Nm×Nm) (λp=>(λ(k_49:Nat) (l_50:List Placed) (s_54:(List Play)×(List Int)×Int) (n_57:Nm) (n_58:Nm)=>([(0,(vL Log_.enc l_1)),(1,(vL Beat.enc b_2)),(9,(gV n_57 4 s_54.1)),(10,(gV n_58 1 s_54.2.1)),(12,(vI s_31)),(15,(vI s_54.2.2)),(67,(vL Placed.enc r_44.1)),(68,(vI (r_44.1.length:Int))),(69,(vI (k_49:Int)))]:SL_)) p.1 p.2.1 p.2.2.1 p.2.2.2.1 p.2.2.2.2) (λp=>(λ(k_49:Nat) (l_50:List Placed) (s_54:(List Play)×(List Int)×Int) (n_57:Nm) (n_58:Nm)=>([(n_57,gB 4 Play.enc s_54.1),(n_58,gB 1 eI s_54.2.1)]:Hp)) p.1 p.2.1 p.2.2.1 p.2.2.2.1 p.2.2.2.2) (λp=>dY (λk x s=>ik l_1 k x s) p.2.1 p.1 p.2.2.1=some o_61/\(r_44.1).drop p.1=p.2.1) (λp=>p.2.1.length) (0,r_44.1,(s_14.1,a_46,0),n_19,n_48) ⟨hj_62,rfl⟩ rfl (aL rfl) ?_)
        rintro ⟨k_49,l_50,s_54,n_57,n_58⟩ ⟨hL_60,hD_52⟩
        dsimp only at hL_60 hD_52
        cases l_50 with
        | nil =>
         obtain rfl:=ah hL_60
         refine af (aa (ae (vB (decide ((k_49:Int)<(r_44.1.length:Int)))) wz rfl (ai ?_)))
         refine af (aA rfl (drop_nil hD_52) (aY ?_))
         exact bz (s_54,n_57,n_58) rfl rfl (aL rfl)
        | cons x_51 l_50 =>
         obtain ⟨c_,hc_59,hL_60⟩:=bind_some hL_60
         refine af (aa (ae (vB (decide ((k_49:Int)<(r_44.1.length:Int)))) wz rfl (ai ?_)))
         refine af (ay rfl (ek hD_52) (av ?_))
         unfold ik at hc_59
         refine af (ax (af (aa (fH sM rfl rfl (eU hD_52) rfl wz (cO qH AJ rfl (.d (.agg (Placed.enc x_51))) rfl wz (gM 0 (.inl rfl) z127 rfl wz (λn_63=>jE 0 il ft 2 qH rfl rfl [(vI x_51.f_i),(vI x_51.f_at)] rfl wz (ai (af (aa (ae (vL Log_.enc l_1) wz rfl (aJ DV rfl 0 rfl wz (aK 0 2 il ft sz3 ag3 rfl rfl (vI x_51.f_i) rfl wz ?_)))))))))))))
         obtain ⟨y_64,hy_65,hc_59⟩:=bind_some hc_59
         refine fH nU rfl rfl hy_65 rfl wz (cO om tO rfl (.d (.agg (Log_.enc y_64))) rfl wz (gM 0 (.inl rfl) z43 rfl wz (λn_66=>jE 0 il ft 3 om rfl rfl [(vS y_64.Player),(vS y_64.Item),(vI y_64.No),(vI y_64.Clock),(vI y_64.Long),(vS y_64.Sum)] rfl wz (ai (af (bK (aJ vw rfl 1 rfl wz (aK 1 2 (.inr (by kernel_rfl)) (λ_ _ ag=>trivial) sz3 ag3 rfl rfl (vI x_51.f_at) rfl wz (ae (vI s_54.2.2) wz rfl (Gn (vI (kF x_51.f_at s_54.2.2)) rfl (.inr rfl) wz (aJ vw rfl 1 rfl wz (aK 5 2 (.inr (by kernel_rfl)) (λ_ _ ag=>⟨.inl ⟨rfl,rfl⟩,trivial⟩) sz3 ag3 rfl rfl (vI x_51.f_at) rfl wz (aJ sV rfl 4 rfl wz (aK 7 3 (.inr (by kernel_rfl)) (λ_ _ ag=>⟨.inl ⟨rfl,rfl⟩,⟨.inl ⟨rfl,rfl⟩,trivial⟩⟩) sz3 ag3 rfl rfl (vI y_64.Long) rfl wz (ae (vI (w64 (x_51.f_at+y_64.Long))) wz rfl (ae (vI (kF x_51.f_at s_54.2.2)) wz rfl (ae (vI (w64 (x_51.f_at+y_64.Long))) wz rfl (ai (af (af ?_))))))))))))))))))))
         obtain ⟨v_67,h_68,hc_59⟩:=bind_some hc_59
         refine aG (β:=Unit) (λ_=>([(0,(vL Log_.enc l_1)),(1,(vL Beat.enc b_2)),(9,(gV n_57 4 s_54.1)),(10,(gV n_58 1 s_54.2.1)),(12,(vI s_31)),(15,(vI s_54.2.2)),(17,(.ref n_63 0 0)),(18,(.ref n_66 0 0)),(19,(vI (kF x_51.f_at s_54.2.2))),(20,(vI (w64 (x_51.f_at+y_64.Long)))),(67,(vL Placed.enc r_44.1)),(68,(vI (r_44.1.length:Int))),(69,(vI (k_49:Int))),(94,(vB v_67))]:SL_)) (λ_=>([(n_57,gB 4 Play.enc s_54.1),(n_58,gB 1 eI s_54.2.1),(n_63,some (.cells 2 [(vI x_51.f_i),(vI x_51.f_at)])),(n_66,some (.cells 6 [(vS y_64.Player),(vS y_64.Item),(vI y_64.No),(vI y_64.Clock),(vI y_64.Long),(vS y_64.Sum)]))]:Hp)) (λ_=>True) ?_ ?_
         ·refine aa (ae (vI (kF x_51.f_at s_54.2.2)) wz rfl (ae (vI (w64 (x_51.f_at+y_64.Long))) wz rfl (ae (vB (decide ((kF x_51.f_at s_54.2.2)>=(w64 (x_51.f_at+y_64.Long))))) wz rfl ?_)))
          rcases ak h_68 with⟨hc_69,h_68⟩|⟨hc_69,h_68⟩
          ·refine aC rfl hc_69 wz (aj wa (aj wa (aj wa (ae (vB true) wz rfl (ai ?_)))))
           obtain rfl:=ah h_68
           exact cu
          ·refine aC rfl hc_69 wz (ae (vI (kF x_51.f_at s_54.2.2)) wa rfl ?_)
           obtain ⟨r_70,hr_71,h_68⟩:=bind_some h_68
           refine aH (gy hr_71) rfl yG rfl rfl rfl rfl wa (ae (vB (!r_70)) wa rfl (ae (vB (!r_70)) wz rfl (ai ?_)))
           obtain rfl:=ah h_68
           exact cu
         ·rintro ⟨⟩ _ sl_ H_ hp_ hq_
          refine aQ _ hp_ hq_ ?_
          rcases ak hc_59 with⟨hc_72,hc_59⟩|⟨hc_72,hc_59⟩
          ·refine ay rfl hc_72 (af (aa (ae (gV n_58 1 s_54.2.1) wz rfl (aJ DV rfl 0 rfl wz (aK 0 2 il ft sz3 ag3 rfl rfl (vI x_51.f_i) rfl wz (fw (([x_51.f_i]:List Int).map eI) oC ut rfl rfl rfl rfl rfl wz ?_))))))
           obtain ⟨a_73,hz_74,hc_59⟩:=bind_some hc_59
           refine jC 0 il ft (i:=1) yu yu sz3 z3 rfl (by decide) by3 (by decide) (λ_=>rfl) rfl rfl rfl hz_74 wz (λn_75=>ae (gV n_75 1 a_73) wz rfl (ai (aY (aa (gW (dh hD_52 hn_53) wz rfl (ae (vI ((k_49+1:Nat):Int)) wz rfl (ai ?_)))))))
           obtain rfl:=ah hc_59
           exact bf (k_49+1,l_50,(s_54.1,a_73,s_54.2.2),n_57,n_75) ⟨hL_60,aU hD_52⟩ (ls_ _) rfl (aL rfl)
          ·refine aA rfl hc_72 (av (af (aa (ae (gV n_57 4 s_54.1) wz rfl (aJ iJ rfl 0 rfl wz (aK 0 3 il ft sz9 ag9 rfl rfl (vS y_64.Player) rfl wz (aJ rq rfl 1 rfl wz (aK 0 3 il ft sz9 ag9 rfl rfl (vS y_64.Item) rfl wz (ae (vI (kF x_51.f_at s_54.2.2)) wz rfl (ae (vI (w64 (x_51.f_at+y_64.Long))) wz rfl (ae (vI (kF x_51.f_at s_54.2.2)) wz rfl (ae (vI (w64 ((w64 (x_51.f_at+y_64.Long))-(kF x_51.f_at s_54.2.2)))) wz rfl (ae (.d (.agg (Play.enc (⟨y_64.Player,y_64.Item,(kF x_51.f_at s_54.2.2),(w64 ((w64 (x_51.f_at+y_64.Long))-(kF x_51.f_at s_54.2.2)))⟩:Play)))) wz (by kernel_rfl) (fw (([(⟨y_64.Player,y_64.Item,(kF x_51.f_at s_54.2.2),(w64 ((w64 (x_51.f_at+y_64.Long))-(kF x_51.f_at s_54.2.2)))⟩:Play)]:List Play).map Play.enc) CY ez76 rfl rfl rfl rfl rfl wz ?_))))))))))))))
           obtain ⟨a_76,hz_77,hc_59⟩:=bind_some hc_59
           refine jC 0 il ft (i:=0) el76 el76 EA z84 rfl (by decide) by84 (by decide) (λ_=>rfl) rfl rfl rfl hz_77 wz (λn_78=>ae (gV n_78 4 a_76) wz rfl (ai (aa (ae (vI (w64 (x_51.f_at+y_64.Long))) wz rfl (ae (vI (w64 (x_51.f_at+y_64.Long))) wz rfl (ai (aa (gW (dh hD_52 hn_53) wz rfl (ae (vI ((k_49+1:Nat):Int)) wz rfl (ai ?_))))))))))
           obtain rfl:=ah hc_59
           exact bf (k_49+1,l_50,(a_76,s_54.2.1,(w64 (x_51.f_at+y_64.Long))),n_78,n_58) ⟨hL_60,aU hD_52⟩ (ls_ _) rfl (aL rfl)
       ·rintro ⟨s_54,n_57,n_58⟩ ho_ sl_ H_ hp_ hq_
        subst ho_
        refine aQ _ hp_ hq_ (aa (ae (vI s_31) wz rfl (ae (vI s_31) wz rfl (ai ?_))))
        obtain rfl:=ah hc_21
        exact bf (k_9,(s_54.1,s_54.2.1,s_31),n_57,n_58) hL_22 (ls_ _) rfl (aL rfl)
     ·refine aA rfl hc_25 (aY ?_)
      obtain rfl:=ah hc_21
      obtain rfl:=ah hL_22
      exact bz ((s_14.1,s_14.2.1,s_14.2.2),n_19,n_20) rfl rfl (aL rfl)
   ·rintro ⟨s_14,n_19,n_20⟩ ho_ sl_ H_ hp_ hq_
    subst ho_
    refine aQ _ hp_ hq_ (af (aa (ae (gV n_20 1 s_14.2.1) wz rfl ?_)))
    obtain ⟨r_80,hr_81,hF⟩:=bind_some hF
    obtain ⟨_,hs_82,hF⟩:=bind_some hF
    replace hs_82:=jG hs_82
    refine jM 0 [] 1 0 il ft (jy hr_81) rfl hb103 rfl rfl rfl (by kernel_rfl) rfl (.inl rfl) rfl (by kernel_rfl) (by kernel_rfl) (by kernel_rfl) (by kernel_rfl) rfl (by decide) (by kernel_rfl) kE (pQ hs_82) wz ([(n_19,gB 4 Play.enc s_14.1),(n_20,gB 1 eI r_80)]:Hp) (by kernel_rfl) (bM (v':=(gV n_20 1 r_80)) 10 rfl (bH hs_82.symm) (bM (v':=(gV n_20 1 r_80)) 114 rfl (bH hs_82.symm) (ai (af (aa (ae (gV n_19 4 s_14.1) wz rfl (ae (gV n_20 1 r_80) wz rfl (ae (gV n_19 4 s_14.1) wz rfl (ae (gV n_20 1 r_80) wz rfl (ae (vI 0) wz rfl (ai (iR 0 rfl (dS 4 0 rfl rfl (dS 9 0 rfl rfl (dS 116 0 rfl rfl (iR 1 rfl (dS 5 1 rfl rfl (dS 10 1 rfl rfl (dS 114 1 rfl rfl (dS 117 1 rfl rfl ?_))))))))))))))))))))
    obtain rfl:=ah hF
    exact aB (bu (.inr rfl) [(vL Play.enc s_14.1),(vL eI r_80),(vI 0)] ⟨rfl,⟨rfl,⟨rfl,trivial⟩⟩⟩ rfl rfl rfl)
theorem qb {n_1:Int} {low_2:Int} {high_3:Int} {r:Bool} (hF:oH n_1 low_2 high_3=some r) :
  FnM Tryz.prog 71 [(vI n_1),(vI low_2),(vI high_3)] [] (vB r) []:=by
 refine FnM.of_wH ⟨Tryz.prog,15,[],[]⟩ rfl Tryz.func71 rfl rfl (lb_ rfl) (by kernel_rfl) ?_
 unfold oH at hF
 refine af (aa (ae (vB false) wz rfl (ai (af ?_))))
 obtain ⟨v_4,h_5,hF⟩:=bind_some hF
 refine aG (β:=Unit) (λ_=>([(6,(vB v_4))]:SL_)) (λ_=>([]:Hp)) (λ_=>True) ?_ ?_
 ·refine aa (ae (vI low_2) wz rfl (ae (vI n_1) wz rfl (ae (vB (decide (low_2<=n_1))) wz rfl ?_)))
  rcases ak h_5 with⟨hc_6,h_5⟩|⟨hc_6,h_5⟩
  ·refine aC rfl hc_6 wz (ae (vI n_1) wa rfl (ae (vI high_3) wa rfl (ae (vB (decide (n_1<=high_3))) wa rfl (ae (vB (decide (n_1<=high_3))) wz rfl (ae (vB (decide (n_1<=high_3))) wz rfl (ai ?_))))))
   obtain rfl:=ah h_5
   exact cu
  ·refine aC rfl hc_6 wz (aj wa (aj wa (aj wa (ae (vB false) wz rfl (ae (vB false) wz rfl (ai ?_))))))
   obtain rfl:=ah h_5
   exact cu
 ·rintro ⟨⟩ _ sl_ H_ hp_ hq_
  refine aQ _ hp_ hq_ ?_
  obtain rfl:=ah hF
  exact aB (bu (.inr rfl) [(vB v_4)] ⟨rfl,trivial⟩ rfl rfl rfl)
theorem kz {s_1:ByteArray} {c_2:Int} {r:Int} (hF:dF s_1 c_2=some r) :
  FnM Tryz.prog 144 [(vS s_1),(.d (.int .u8 c_2))] [] (vI r) []:=by
 refine FnM.of_wH ⟨Tryz.prog,8,[],[]⟩ rfl Tryz.func144 rfl rfl (lb_ rfl) (by kernel_rfl) ?_
 unfold dF at hF
 refine af (aa (ae (vI 0) wz rfl (ai (af (aa (ae (vS s_1) wz rfl (ae (.d (.int .u8 c_2)) wz rfl (h_ext (ext_ixB (f:=189) Tryz.func189 rfl rfl (by kernel_rfl) (by kernel_rfl) _ _) rfl nb189 rfl wz (ae (vI (ixB s_1 c_2)) wz rfl (ai ?_))))))))))
 obtain rfl:=ah hF
 exact aB (bu (.inr rfl) [(vI (ixB s_1 c_2))] ⟨rfl,trivial⟩ rfl rfl rfl)
theorem pR {s_1:ByteArray} {c_2:Int} {r:Int} (hF:strings_IndexByte s_1 c_2=some r) :
  FnM Tryz.prog 113 [(vS s_1),(.d (.int .u8 c_2))] [] (vI r) []:=by
 refine FnM.of_wH ⟨Tryz.prog,8,[],[]⟩ rfl Tryz.func113 rfl rfl (lb_ rfl) (by kernel_rfl) ?_
 unfold strings_IndexByte at hF
 refine af (aa (ae (vI 0) wz rfl (ai (af (aa (ae (vS s_1) wz rfl (ae (.d (.int .u8 c_2)) wz rfl ?_)))))))
 obtain ⟨r_3,hr_4,hF⟩:=bind_some hF
 refine aH (kz hr_4) rfl hb144 rfl rfl rfl rfl wz (ae (vI r_3) wz rfl (ai ?_))
 obtain rfl:=ah hF
 exact aB (bu (.inr rfl) [(vI r_3)] ⟨rfl,trivial⟩ rfl rfl rfl)
theorem pg {s_1:ByteArray} {somev_2:ByteArray} {r:Bool} (hF:lc s_1 somev_2=some r) :
  FnM Tryz.prog 69 [(vS s_1),(vS somev_2)] [] (vB r) []:=by
 refine FnM.of_wH ⟨Tryz.prog,18,[],[]⟩ rfl Tryz.func69 rfl rfl (lb_ rfl) (by kernel_rfl) ?_
 unfold lc at hF
 refine af (aa (ae (vB false) wz rfl (ai (af (af (aa (ae (vS s_1) wz rfl (tQ un9 rfl wz (ae (vI 0) wz rfl (ai ?_))))))))))
 obtain ⟨o_11,hj_12,hF⟩:=bind_some hF
 obtain ⟨hn_7,hj_12⟩:=bX hj_12
 refine aG (β:=(Unit)) (λ(s_8:Unit)=>([]:SL_)) (λ(s_8:Unit)=>([]:Hp)) (λp=>o_11 = .go p) ?_ ?_
 ·refine ax (bA (β:=Nat×(List Nat)×(Unit)) (λp=>(λ(k_3:Nat) (l_4:List Nat) (s_8:Unit)=>([(0,(vS s_1)),(1,(vS somev_2)),(7,(vI (s_1.size:Int))),(8,(vI (k_3:Int)))]:SL_)) p.1 p.2.1 p.2.2) (λp=>(λ(k_3:Nat) (l_4:List Nat) (s_8:Unit)=>([]:Hp)) p.1 p.2.1 p.2.2) (λp=>dY (λk x s=>jV s_1 somev_2 k x s) p.2.1 p.1 p.2.2=some o_11/\((List.range ((s_1.size:Int)).toNat)).drop p.1=p.2.1) (λp=>p.2.1.length) (0,(List.range ((s_1.size:Int)).toNat),()) ⟨hj_12,rfl⟩ rfl (aL rfl) ?_)
  rintro ⟨k_3,l_4,s_8⟩ ⟨hL_10,hD_6⟩
  dsimp only at hL_10 hD_6
  cases l_4 with
  | nil =>
   obtain rfl:=ah hL_10
   refine af (aa (ae (vB (decide ((k_3:Int)<(s_1.size:Int)))) wz rfl (ai ?_)))
   refine af (aA rfl (nW hD_6) (aY ?_))
   exact bz (s_8) rfl rfl (aL rfl)
  | cons x_5 l_4 =>
   obtain ⟨c_,hc_9,hL_10⟩:=bind_some hL_10
   refine af (aa (ae (vB (decide ((k_3:Int)<(s_1.size:Int)))) wz rfl (ai ?_)))
   refine af (ay rfl (mE hD_6) (av ?_))
   unfold jV at hc_9
   refine af (ax (af (aa (ae (vI (k_3:Int)) wz rfl (ae (vI (k_3:Int)) wz rfl (ai (af (aa (ae (vS somev_2) wz rfl (ae (vS s_1) wz rfl (ae (vI (k_3:Int)) wz rfl ?_)))))))))))
   obtain ⟨b_13,hy_14,hc_9⟩:=bind_some hc_9
   refine Fz un9 rfl rfl hy_14 wz ?_
   obtain ⟨r_15,hr_16,hc_9⟩:=bind_some hc_9
   refine aH (pR hr_16) rfl hb113 rfl rfl rfl rfl wz (ae (vB (decide (r_15<0))) wz rfl (ai ?_))
   rcases ak hc_9 with⟨hc_17,hc_9⟩|⟨hc_17,hc_9⟩
   ·refine ay rfl hc_17 (af (aa (ae (vB false) wz rfl (ai ?_))))
    obtain rfl:=ah hc_9
    obtain rfl:=ah hL_10
    obtain rfl:=ah hF
    exact aB (bu (.inr rfl) [(vB false)] ⟨rfl,trivial⟩ rfl rfl rfl)
   ·refine aA rfl hc_17 (av (aa (gW (nM hD_6 hn_7) wz rfl (ae (vI ((k_3+1:Nat):Int)) wz rfl (ai ?_)))))
    obtain rfl:=ah hc_9
    exact bf (k_3+1,l_4,()) ⟨hL_10,aU hD_6⟩ (ls_ _) rfl (aL rfl)
 ·rintro s_8 ho_ sl_ H_ hp_ hq_
  subst ho_
  refine aQ _ hp_ hq_ (af (aa (ae (vB true) wz rfl (ai ?_))))
  obtain rfl:=ah hF
  exact aB (bu (.inr rfl) [(vB true)] ⟨rfl,trivial⟩ rfl rfl rfl)
theorem ru {s_1:ByteArray} {r:Bool} (hF:og s_1=some r) :
  FnM Tryz.prog 70 [(vS s_1)] [] (vB r) []:=by
 refine FnM.of_wH ⟨Tryz.prog,15,[],[]⟩ rfl Tryz.func70 rfl rfl (lb_ rfl) (by kernel_rfl) ?_
 unfold og at hF
 refine af (aa (ae (vB false) wz rfl (ai (af ?_))))
 obtain ⟨v_2,h_3,hF⟩:=bind_some hF
 refine aG (β:=Unit) (λ_=>([(2,(vB v_2))]:SL_)) (λ_=>([]:Hp)) (λ_=>True) ?_ ?_
 ·refine aa (ae (vS s_1) wz rfl (tQ un9 rfl wz ?_))
  obtain ⟨r_4,hr_5,h_3⟩:=bind_some h_3
  refine aH (qb hr_5) rfl hb71 rfl rfl rfl rfl wz ?_
  rcases ak h_3 with⟨hc_6,h_3⟩|⟨hc_6,h_3⟩
  ·refine aC rfl hc_6 wz (ae (vS s_1) wa rfl ?_)
   obtain ⟨y_7,hy_8,h_3⟩:=bind_some h_3
   refine xO un9 rfl rfl hy_8 wa ?_
   obtain ⟨r_9,hr_10,h_3⟩:=bind_some h_3
   refine aH (pg hr_10) rfl hb69 rfl rfl rfl rfl wa (ae (vB r_9) wz rfl ?_)
   rcases ak h_3 with⟨hc_11,h_3⟩|⟨hc_11,h_3⟩
   ·refine aC rfl hc_11 wz (ae (vS s_1) wa rfl ?_)
    obtain ⟨r_12,hr_13,h_3⟩:=bind_some h_3
    refine aH (pg hr_13) rfl hb69 rfl rfl rfl rfl wa (ae (vB r_12) wz rfl (ae (vB r_12) wz rfl (ai ?_)))
    obtain rfl:=ah h_3
    exact cu
   ·refine aC rfl hc_11 wz (aj wa (aj wa (ae (vB false) wz rfl (ae (vB false) wz rfl (ai ?_)))))
    obtain rfl:=ah h_3
    exact cu
  ·refine aC rfl hc_6 wz (aj wa (aj wa (aj wa (ae (vB false) wz rfl (ae (vB false) wz rfl (aj wa (aj wa (ae (vB false) wz rfl (ae (vB false) wz rfl (ai ?_))))))))))
   obtain rfl:=ah h_3
   exact cu
 ·rintro ⟨⟩ _ sl_ H_ hp_ hq_
  refine aQ _ hp_ hq_ ?_
  obtain rfl:=ah hF
  exact aB (bu (.inr rfl) [(vB v_2)] ⟨rfl,trivial⟩ rfl rfl rfl)
theorem jF {atv_1:Int} {r:Bool} (hF:gQ atv_1=some r) :
  FnM Tryz.prog 72 [(vI atv_1)] [] (vB r) []:=by
 refine FnM.of_wH ⟨Tryz.prog,5,[],[]⟩ rfl Tryz.func72 rfl rfl (lb_ rfl) (by kernel_rfl) ?_
 unfold gQ at hF
 refine af (aa (ae (vB false) wz rfl (ai (af (aa (ae (vI atv_1) wz rfl ?_))))))
 obtain ⟨r_2,hr_3,hF⟩:=bind_some hF
 refine aH (qb hr_3) rfl hb71 rfl rfl rfl rfl wz (ae (vB r_2) wz rfl (ai ?_))
 obtain rfl:=ah hF
 exact aB (bu (.inr rfl) [(vB r_2)] ⟨rfl,trivial⟩ rfl rfl rfl)
theorem wZ {l_1:Log_} {r:Int} (hF:lu l_1=some r) :
  FnM Tryz.prog 24 [(.d (.agg (Log_.enc l_1)))] [] (vI r) []:=by
 refine FnM.of_wH ⟨Tryz.prog,31,[],[]⟩ rfl Tryz.func24 rfl rfl (lb_ rfl) (by kernel_rfl) ?_
 unfold lu at hF
 refine af (aa (kN 0 (.inl rfl) [(vS l_1.Player),(vS l_1.Item),(vI l_1.No),(vI l_1.Clock),(vI l_1.Long),(vS l_1.Sum)] rfl rfl wz (λn_2=>ae (vI 0) wz rfl (ai (af (ax (af ?_)))))))
 obtain ⟨v_3,h_4,hF⟩:=bind_some hF
 refine aG (β:=Unit) (λ_=>([(1,(.ref n_2 0 0)),(3,(vB v_3))]:SL_)) (λ_=>([(n_2,some (.cells 6 [(vS l_1.Player),(vS l_1.Item),(vI l_1.No),(vI l_1.Clock),(vI l_1.Long),(vS l_1.Sum)]))]:Hp)) (λ_=>True) ?_ ?_
 ·refine aa (aJ iJ rfl 0 rfl wz (aK 0 0 il ft sz9 ag9 rfl rfl (vS l_1.Player) rfl wz ?_))
  obtain ⟨r_5,hr_6,h_4⟩:=bind_some h_4
  refine aH (ru hr_6) rfl hb70 rfl rfl rfl rfl wz (ae (vB (!r_5)) wz rfl ?_)
  rcases ak h_4 with⟨hc_7,h_4⟩|⟨hc_7,h_4⟩
  ·refine aC rfl hc_7 wz (aj wa (aj wa (aj wa (aj wa (ae (vB true) wz rfl (ae (vB true) wz rfl (ai ?_)))))))
   obtain rfl:=ah h_4
   exact cu
  ·refine aC rfl hc_7 wz (aJ rq rfl 1 rfl wa (aK 0 0 il ft sz9 ag9 rfl rfl (vS l_1.Item) rfl wa ?_))
   obtain ⟨r_8,hr_9,h_4⟩:=bind_some h_4
   refine aH (ru hr_9) rfl hb70 rfl rfl rfl rfl wa (ae (vB (!r_8)) wa rfl (ae (vB (!r_8)) wz rfl (ae (vB (!r_8)) wz rfl (ai ?_))))
   obtain rfl:=ah h_4
   exact cu
 ·rintro ⟨⟩ _ sl_ H_ hp_ hq_
  refine aQ _ hp_ hq_ ?_
  rcases ak hF with⟨hc_10,hF⟩|⟨hc_10,hF⟩
  ·refine ay rfl hc_10 (af (aa (ae (vI 5) wz rfl (ai ?_))))
   obtain rfl:=ah hF
   exact aB (bu (.inr rfl) [(vI 5)] ⟨rfl,trivial⟩ rfl rfl rfl)
  ·refine aA rfl hc_10 (af ?_)
   obtain ⟨v_11,h_12,hF⟩:=bind_some hF
   refine aG (β:=Unit) (λ_=>([(14,(vB v_11))]:SL_)) (λ_=>([(n_2,some (.cells 6 [(vS l_1.Player),(vS l_1.Item),(vI l_1.No),(vI l_1.Clock),(vI l_1.Long),(vS l_1.Sum)]))]:Hp)) (λ_=>True) ?_ ?_
   ·refine aa (aJ pO rfl 2 rfl wz (aK 0 0 il ft sz3 ag3 rfl rfl (vI l_1.No) rfl wz ?_))
    obtain ⟨r_13,hr_14,h_12⟩:=bind_some h_12
    refine aH (qb hr_14) rfl hb71 rfl rfl rfl rfl wz (ae (vB (!r_13)) wz rfl ?_)
    rcases ak h_12 with⟨hc_15,h_12⟩|⟨hc_15,h_12⟩
    ·refine aC rfl hc_15 wz (aj wa (aj wa (aj wa (aj wa (ae (vB true) wz rfl (ae (vB true) wz rfl (aj wa (aj wa (aj wa (aj wa (ae (vB true) wz rfl (ae (vB true) wz rfl (ai ?_)))))))))))))
     obtain rfl:=ah h_12
     exact cu
    ·refine aC rfl hc_15 wz (aJ ou rfl 3 rfl wa (aK 0 0 il ft sz3 ag3 rfl rfl (vI l_1.Clock) rfl wa ?_))
     obtain ⟨r_16,hr_17,h_12⟩:=bind_some h_12
     refine aH (jF hr_17) rfl Gy rfl rfl rfl rfl wa (ae (vB (!r_16)) wa rfl (ae (vB (!r_16)) wz rfl ?_))
     rcases ak h_12 with⟨hc_18,h_12⟩|⟨hc_18,h_12⟩
     ·refine aC rfl hc_18 wz (aj wa (aj wa (aj wa (aj wa (ae (vB true) wz rfl (ae (vB true) wz rfl (ai ?_)))))))
      obtain rfl:=ah h_12
      exact cu
     ·refine aC rfl hc_18 wz (aJ sV rfl 4 rfl wa (aK 0 0 il ft sz3 ag3 rfl rfl (vI l_1.Long) rfl wa ?_))
      obtain ⟨r_19,hr_20,h_12⟩:=bind_some h_12
      refine aH (qb hr_20) rfl hb71 rfl rfl rfl rfl wa (ae (vB (!r_19)) wa rfl (ae (vB (!r_19)) wz rfl (ae (vB (!r_19)) wz rfl (ai ?_))))
      obtain rfl:=ah h_12
      exact cu
   ·rintro ⟨⟩ _ sl_ H_ hp_ hq_
    refine aQ _ hp_ hq_ ?_
    rcases ak hF with⟨hc_21,hF⟩|⟨hc_21,hF⟩
    ·refine ay rfl hc_21 (af (aa (ae (vI 1) wz rfl (ai ?_))))
     obtain rfl:=ah hF
     exact aB (bu (.inr rfl) [(vI 1)] ⟨rfl,trivial⟩ rfl rfl rfl)
    ·refine aA rfl hc_21 (av (af (aa (ae (vI 0) wz rfl (ai ?_)))))
     obtain rfl:=ah hF
     exact aB (bu (.inr rfl) [(vI 0)] ⟨rfl,trivial⟩ rfl rfl rfl)
theorem yw {s_1:ByteArray} {r:Bool} (hF:ma s_1=some r) :
  FnM Tryz.prog 23 [(vS s_1)] [] (vB r) []:=by
 refine FnM.of_wH ⟨Tryz.prog,10,[],[]⟩ rfl Tryz.func23 rfl rfl (lb_ rfl) (by kernel_rfl) ?_
 unfold ma at hF
 refine af (aa (ae (vB false) wz rfl (ai (af ?_))))
 obtain ⟨v_2,h_3,hF⟩:=bind_some hF
 refine aG (β:=Unit) (λ_=>([(2,(vB v_2))]:SL_)) (λ_=>([]:Hp)) (λ_=>True) ?_ ?_
 ·refine aa (ae (vS s_1) wz rfl (tQ un9 rfl wz (ae (vB ((s_1.size:Int)==16)) wz rfl ?_)))
  rcases ak h_3 with⟨hc_4,h_3⟩|⟨hc_4,h_3⟩
  ·refine aC rfl hc_4 wz (ae (vS s_1) wa rfl ?_)
   obtain ⟨r_5,hr_6,h_3⟩:=bind_some h_3
   refine aH (pg hr_6) rfl hb69 rfl rfl rfl rfl wa (ae (vB r_5) wz rfl (ae (vB r_5) wz rfl (ai ?_)))
   obtain rfl:=ah h_3
   exact cu
  ·refine aC rfl hc_4 wz (aj wa (aj wa (ae (vB false) wz rfl (ae (vB false) wz rfl (ai ?_)))))
   obtain rfl:=ah h_3
   exact cu
 ·rintro ⟨⟩ _ sl_ H_ hp_ hq_
  refine aQ _ hp_ hq_ ?_
  obtain rfl:=ah hF
  exact aB (bu (.inr rfl) [(vB v_2)] ⟨rfl,trivial⟩ rfl rfl rfl)
theorem uD {n_1:Int} {r:Int} (hF:nV n_1=some r) :
  FnM Tryz.prog 108 [(vI n_1)] [] (vI r) []:=by
 refine FnM.of_wH ⟨Tryz.prog,9,[],[]⟩ rfl Tryz.func108 rfl rfl (lb_ rfl) (by kernel_rfl) ?_
 unfold nV at hF
 refine af (aa (ae (vI 0) wz rfl (ai (af (ax (af (aa (ae (vI n_1) wz rfl (ae (vB (decide (n_1<0))) wz rfl (ae (vB (decide (n_1<0))) wz rfl (ai ?_)))))))))))
 rcases ak hF with⟨hc_2,hF⟩|⟨hc_2,hF⟩
 ·refine ay rfl hc_2 (af (aa (ae (vI (-1)) wz rfl (ai ?_))))
  obtain rfl:=ah hF
  exact aB (bu (.inr rfl) [(vI (-1))] ⟨rfl,trivial⟩ rfl rfl rfl)
 ·refine aA rfl hc_2 (af (aa (ae (vI n_1) wz rfl (ae (vB (decide (n_1>0))) wz rfl (ae (vB (decide (n_1>0))) wz rfl (ai ?_))))))
  rcases ak hF with⟨hc_3,hF⟩|⟨hc_3,hF⟩
  ·refine ay rfl hc_3 (af (aa (ae (vI 1) wz rfl (ai ?_))))
   obtain rfl:=ah hF
   exact aB (bu (.inr rfl) [(vI 1)] ⟨rfl,trivial⟩ rfl rfl rfl)
  ·refine aA rfl hc_3 (av (af (aa (ae (vI 0) wz rfl (ai ?_)))))
   obtain rfl:=ah hF
   exact aB (bu (.inr rfl) [(vI 0)] ⟨rfl,trivial⟩ rfl rfl rfl)
theorem ve {a_1:Log_} {b_2:Log_} {r:Int} (hF:kG a_1 b_2=some r) :
  FnM Tryz.prog 62 [(.d (.agg (Log_.enc a_1))),(.d (.agg (Log_.enc b_2)))] [] (vI r) []:=by
 refine FnM.of_wH ⟨Tryz.prog,21,[],[]⟩ rfl Tryz.func62 rfl rfl (lb_ rfl) (by kernel_rfl) ?_
 unfold kG at hF
 refine af (aa (kN 0 (.inl rfl) [(vS a_1.Player),(vS a_1.Item),(vI a_1.No),(vI a_1.Clock),(vI a_1.Long),(vS a_1.Sum)] rfl rfl wz (λn_3=>kN 0 (.inl rfl) [(vS b_2.Player),(vS b_2.Item),(vI b_2.No),(vI b_2.Clock),(vI b_2.Long),(vS b_2.Sum)] rfl rfl wz (λn_4=>ae (vI 0) wz rfl (ai (af (af (aa (aJ iJ rfl 0 rfl wz (aK 0 0 il ft sz9 ag9 rfl rfl (vS a_1.Player) rfl wz (aJ iJ rfl 0 rfl wz (aK 0 1 il ft sz9 ag9 rfl rfl (vS b_2.Player) rfl wz (ae (vB (sNe a_1.Player b_2.Player)) wz rfl (ai ?_))))))))))))))
 rcases ak hF with⟨hc_5,hF⟩|⟨hc_5,hF⟩
 ·refine ay rfl hc_5 (af (aa (aJ iJ rfl 0 rfl wz (aK 0 0 il ft sz9 ag9 rfl rfl (vS a_1.Player) rfl wz (aJ iJ rfl 0 rfl wz (aK 0 1 il ft sz9 ag9 rfl rfl (vS b_2.Player) rfl wz ?_))))))
  obtain ⟨r_6,hr_7,hF⟩:=bind_some hF
  refine aH (iI hr_7) rfl DD rfl rfl rfl rfl wz (ae (vI r_6) wz rfl (ai ?_))
  obtain rfl:=ah hF
  exact aB (bu (.inr rfl) [(vI r_6)] ⟨rfl,trivial⟩ rfl rfl rfl)
 ·refine aA rfl hc_5 (av (af (aa (aJ pO rfl 2 rfl wz (aK 0 0 il ft sz3 ag3 rfl rfl (vI a_1.No) rfl wz (aJ pO rfl 2 rfl wz (aK 0 1 il ft sz3 ag3 rfl rfl (vI b_2.No) rfl wz (ae (vI (w64 (a_1.No-b_2.No))) wz rfl ?_))))))))
  obtain ⟨r_8,hr_9,hF⟩:=bind_some hF
  refine aH (uD hr_9) rfl hb108 rfl rfl rfl rfl wz (ae (vI r_8) wz rfl (ai ?_))
  obtain rfl:=ah hF
  exact aB (bu (.inr rfl) [(vI r_8)] ⟨rfl,trivial⟩ rfl rfl rfl)
theorem uB {l_1:(List Log_)} {r:Int} (hF:jI l_1=some r) :
  FnM Tryz.prog 10 [(vL Log_.enc l_1)] [] (vI r) []:=by
 refine FnM.of_wH ⟨Tryz.prog,40,[],[]⟩ rfl Tryz.func10 rfl rfl (lb_ rfl) (by kernel_rfl) ?_
 unfold jI at hF
 refine af (aa (ae (vI 0) wz rfl (ai (af (af (aa (ae (vL Log_.enc l_1) wz rfl (eY tu rfl wz (ae (vB (decide ((l_1.length:Int)>2000))) wz rfl (ai ?_))))))))))
 rcases ak hF with⟨hc_2,hF⟩|⟨hc_2,hF⟩
 ·refine ay rfl hc_2 (af (aa (ae (vI 2) wz rfl (ai ?_))))
  obtain rfl:=ah hF
  exact aB (bu (.inr rfl) [(vI 2)] ⟨rfl,trivial⟩ rfl rfl rfl)
 ·refine aA rfl hc_2 (av (af (af (aa (ae (vL Log_.enc l_1) wz rfl (eY tu rfl wz (ae (vI 0) wz rfl (ai ?_))))))))
  obtain ⟨o_11,hj_12,hF⟩:=bind_some hF
  obtain ⟨hn_7,hj_12⟩:=bX hj_12
  refine aG (β:=(Unit)) (λ(s_8:Unit)=>([]:SL_)) (λ(s_8:Unit)=>([]:Hp)) (λp=>o_11 = .go p) ?_ ?_
  ·refine ax (bA (β:=Nat×(List Log_)×(Unit)) (λp=>(λ(k_3:Nat) (l_4:List Log_) (s_8:Unit)=>([(0,(vL Log_.enc l_1)),(9,(vL Log_.enc l_1)),(10,(vI (l_1.length:Int))),(11,(vI (k_3:Int)))]:SL_)) p.1 p.2.1 p.2.2) (λp=>(λ(k_3:Nat) (l_4:List Log_) (s_8:Unit)=>([]:Hp)) p.1 p.2.1 p.2.2) (λp=>dY (λk x s=>jq l_1 k x s) p.2.1 p.1 p.2.2=some o_11/\(l_1).drop p.1=p.2.1) (λp=>p.2.1.length) (0,l_1,()) ⟨hj_12,rfl⟩ rfl (aL rfl) ?_)
   rintro ⟨k_3,l_4,s_8⟩ ⟨hL_10,hD_6⟩
   dsimp only at hL_10 hD_6
   cases l_4 with
   | nil =>
    obtain rfl:=ah hL_10
    refine af (aa (ae (vB (decide ((k_3:Int)<(l_1.length:Int)))) wz rfl (ai ?_)))
    refine af (aA rfl (drop_nil hD_6) (aY ?_))
    exact bz (s_8) rfl rfl (aL rfl)
   | cons x_5 l_4 =>
    obtain ⟨c_,hc_9,hL_10⟩:=bind_some hL_10
    refine af (aa (ae (vB (decide ((k_3:Int)<(l_1.length:Int)))) wz rfl (ai ?_)))
    refine af (ay rfl (ek hD_6) (av ?_))
    unfold jq at hc_9
    refine af (ax (af (aa (ae (vI (k_3:Int)) wz rfl (fH nU rfl rfl (eU hD_6) rfl wz (cO om tO rfl (.d (.agg (Log_.enc x_5))) rfl wz (gM 0 (.inl rfl) z43 rfl wz (λn_13=>ae (vI (k_3:Int)) wz rfl (jE 0 il ft 0 om rfl rfl [(vS x_5.Player),(vS x_5.Item),(vI x_5.No),(vI x_5.Clock),(vI x_5.Long),(vS x_5.Sum)] rfl wz (ai (af (af (aa (aK 0 0 il ft om tO rfl rfl (.d (.agg (Log_.enc x_5))) rfl wz ?_))))))))))))))
    obtain ⟨r_14,hr_15,hc_9⟩:=bind_some hc_9
    refine aH (wZ hr_15) rfl hb24 rfl rfl rfl rfl wz (ae (vI r_14) wz rfl (ai (af (aa (ae (vI r_14) wz rfl (ae (vB (r_14 != 0)) wz rfl (ai ?_)))))))
    rcases ak hc_9 with⟨hc_16,hc_9⟩|⟨hc_16,hc_9⟩
    ·refine ay rfl hc_16 (af (aa (ae (vI r_14) wz rfl (ae (vI r_14) wz rfl (ai ?_)))))
     obtain rfl:=ah hc_9
     obtain rfl:=ah hL_10
     obtain rfl:=ah hF
     exact aB (bu (.inr rfl) [(vI r_14)] ⟨rfl,trivial⟩ rfl rfl rfl)
    ·refine aA rfl hc_16 (av (ax (af (aa (aJ rE rfl 5 rfl wz (aK 0 0 il ft sz9 ag9 rfl rfl (vS x_5.Sum) rfl wz ?_))))))
     obtain ⟨r_17,hr_18,hc_9⟩:=bind_some hc_9
     refine aH (yw hr_18) rfl hb23 rfl rfl rfl rfl wz (ae (vB (!r_17)) wz rfl (ae (vB (!r_17)) wz rfl (ai ?_)))
     rcases ak hc_9 with⟨hc_19,hc_9⟩|⟨hc_19,hc_9⟩
     ·refine ay rfl hc_19 (af (aa (ae (vI 3) wz rfl (ai ?_))))
      obtain rfl:=ah hc_9
      obtain rfl:=ah hL_10
      obtain rfl:=ah hF
      exact aB (bu (.inr rfl) [(vI 3)] ⟨rfl,trivial⟩ rfl rfl rfl)
     ·refine aA rfl hc_19 (af ?_)
      obtain ⟨v_20,h_21,hc_9⟩:=bind_some hc_9
      refine aG (β:=Unit) (λ_=>([(0,(vL Log_.enc l_1)),(9,(vL Log_.enc l_1)),(10,(vI (l_1.length:Int))),(11,(vI (k_3:Int))),(26,(vB v_20))]:SL_)) (λ_=>([(n_13,some (.cells 6 [(vS x_5.Player),(vS x_5.Item),(vI x_5.No),(vI x_5.Clock),(vI x_5.Long),(vS x_5.Sum)]))]:Hp)) (λ_=>True) ?_ ?_
      ·refine bK (ae (vI (k_3:Int)) wz rfl (ae (vB (decide ((k_3:Int)>0))) wz rfl ?_))
       rcases ak h_21 with⟨hc_22,h_21⟩|⟨hc_22,h_21⟩
       ·refine aC rfl hc_22 wz (ae (vL Log_.enc l_1) wa rfl (ae (vI (k_3:Int)) wa rfl (ae (vI (w64 ((k_3:Int)-1))) wa rfl ?_)))
        obtain ⟨y_23,hy_24,h_21⟩:=bind_some h_21
        refine fH nU rfl rfl hy_24 rfl wa (cO om tO rfl (.d (.agg (Log_.enc y_23))) rfl wa (aK 8 0 (.inr (by kernel_rfl)) (λ_ _ ag=>trivial) om tO rfl rfl (.d (.agg (Log_.enc x_5))) rfl wa ?_))
        obtain ⟨r_25,hr_26,h_21⟩:=bind_some h_21
        refine aH (ve hr_26) rfl hb62 rfl rfl rfl rfl wa (ae (vB (decide (r_25>=0))) wa rfl (ae (vB (decide (r_25>=0))) wz rfl (ae (vB (decide (r_25>=0))) wz rfl (ai ?_))))
        obtain rfl:=ah h_21
        exact cu
       ·refine aC rfl hc_22 wz (aj wa (aj wa (aj wa (aj wa (aj wa (aj wa (aj wa (aj wa (ae (vB false) wz rfl (ae (vB false) wz rfl (ai ?_)))))))))))
        obtain rfl:=ah h_21
        exact cu
      ·rintro ⟨⟩ _ sl_ H_ hp_ hq_
       refine aQ _ hp_ hq_ ?_
       rcases ak hc_9 with⟨hc_27,hc_9⟩|⟨hc_27,hc_9⟩
       ·refine ay rfl hc_27 (af (aa (ae (vI 7) wz rfl (ai ?_))))
        obtain rfl:=ah hc_9
        obtain rfl:=ah hL_10
        obtain rfl:=ah hF
        exact aB (bu (.inr rfl) [(vI 7)] ⟨rfl,trivial⟩ rfl rfl rfl)
       ·refine aA rfl hc_27 (av (aa (gW (dh hD_6 hn_7) wz rfl (ae (vI ((k_3+1:Nat):Int)) wz rfl (ai ?_)))))
        obtain rfl:=ah hc_9
        exact bf (k_3+1,l_4,()) ⟨hL_10,aU hD_6⟩ (ls_ _) rfl (aL rfl)
  ·rintro s_8 ho_ sl_ H_ hp_ hq_
   subst ho_
   refine aQ _ hp_ hq_ (af (aa (ae (vI 0) wz rfl (ai ?_))))
   obtain rfl:=ah hF
   exact aB (bu (.inr rfl) [(vI 0)] ⟨rfl,trivial⟩ rfl rfl rfl)
theorem sK {l_1:(List Beat)} {r:Int} (hF:jd l_1=some r) :
  FnM Tryz.prog 54 [(vL Beat.enc l_1)] [] (vI r) []:=by
 refine FnM.of_wH ⟨Tryz.prog,73,[],[]⟩ rfl Tryz.func54 rfl rfl (lb_ rfl) (by kernel_rfl) ?_
 unfold jd at hF
 refine af (aa (ae (vI 0) wz rfl (ai (af (af (aa (ae (vL Beat.enc l_1) wz rfl (eY rG rfl wz (ae (vB (decide ((l_1.length:Int)>500))) wz rfl (ai ?_))))))))))
 rcases ak hF with⟨hc_2,hF⟩|⟨hc_2,hF⟩
 ·refine ay rfl hc_2 (af (aa (ae (vI 2) wz rfl (ai ?_))))
  obtain rfl:=ah hF
  exact aB (bu (.inr rfl) [(vI 2)] ⟨rfl,trivial⟩ rfl rfl rfl)
 ·refine aA rfl hc_2 (av (af (af (aa (ae (vL Beat.enc l_1) wz rfl (eY rG rfl wz (ae (vI 0) wz rfl (ai ?_))))))))
  obtain ⟨o_11,hj_12,hF⟩:=bind_some hF
  obtain ⟨hn_7,hj_12⟩:=bX hj_12
  refine aG (β:=(Unit)) (λ(s_8:Unit)=>([]:SL_)) (λ(s_8:Unit)=>([]:Hp)) (λp=>o_11 = .go p) ?_ ?_
  ·refine ax (bA (β:=Nat×(List Beat)×(Unit)) (λp=>(λ(k_3:Nat) (l_4:List Beat) (s_8:Unit)=>([(0,(vL Beat.enc l_1)),(9,(vL Beat.enc l_1)),(10,(vI (l_1.length:Int))),(11,(vI (k_3:Int)))]:SL_)) p.1 p.2.1 p.2.2) (λp=>(λ(k_3:Nat) (l_4:List Beat) (s_8:Unit)=>([]:Hp)) p.1 p.2.1 p.2.2) (λp=>dY (λk x s=>ja l_1 k x s) p.2.1 p.1 p.2.2=some o_11/\(l_1).drop p.1=p.2.1) (λp=>p.2.1.length) (0,l_1,()) ⟨hj_12,rfl⟩ rfl (aL rfl) ?_)
   rintro ⟨k_3,l_4,s_8⟩ ⟨hL_10,hD_6⟩
   dsimp only at hL_10 hD_6
   cases l_4 with
   | nil =>
    obtain rfl:=ah hL_10
    refine af (aa (ae (vB (decide ((k_3:Int)<(l_1.length:Int)))) wz rfl (ai ?_)))
    refine af (aA rfl (drop_nil hD_6) (aY ?_))
    exact bz (s_8) rfl rfl (aL rfl)
   | cons x_5 l_4 =>
    obtain ⟨c_,hc_9,hL_10⟩:=bind_some hL_10
    refine af (aa (ae (vB (decide ((k_3:Int)<(l_1.length:Int)))) wz rfl (ai ?_)))
    refine af (ay rfl (ek hD_6) (av ?_))
    unfold ja at hc_9
    refine af (ax (af (aa (ae (vI (k_3:Int)) wz rfl (fH oN rfl rfl (eU hD_6) rfl wz (cO iP oW rfl (.d (.agg (Beat.enc x_5))) rfl wz (gM 0 (.inl rfl) yc rfl wz (λn_13=>ae (vI (k_3:Int)) wz rfl (jE 0 il ft 0 iP rfl rfl [(vS x_5.Player),(vI x_5.At),(vI x_5.Clock)] rfl wz (ai (af (ax (af (aa (aJ gZ rfl 0 rfl wz (aK 0 0 il ft sz9 ag9 rfl rfl (vS x_5.Player) rfl wz ?_))))))))))))))))
    obtain ⟨r_14,hr_15,hc_9⟩:=bind_some hc_9
    refine aH (ru hr_15) rfl hb70 rfl rfl rfl rfl wz (ae (vB (!r_14)) wz rfl (ae (vB (!r_14)) wz rfl (ai ?_)))
    rcases ak hc_9 with⟨hc_16,hc_9⟩|⟨hc_16,hc_9⟩
    ·refine ay rfl hc_16 (af (aa (ae (vI 5) wz rfl (ai ?_))))
     obtain rfl:=ah hc_9
     obtain rfl:=ah hL_10
     obtain rfl:=ah hF
     exact aB (bu (.inr rfl) [(vI 5)] ⟨rfl,trivial⟩ rfl rfl rfl)
    ·refine aA rfl hc_16 (af ?_)
     obtain ⟨v_17,h_18,hc_9⟩:=bind_some hc_9
     refine aG (β:=Unit) (λ_=>([(0,(vL Beat.enc l_1)),(3,(vI (k_3:Int))),(4,(.ref n_13 0 0)),(9,(vL Beat.enc l_1)),(10,(vI (l_1.length:Int))),(11,(vI (k_3:Int))),(21,(vB v_17))]:SL_)) (λ_=>([(n_13,some (.cells 3 [(vS x_5.Player),(vI x_5.At),(vI x_5.Clock)]))]:Hp)) (λ_=>True) ?_ ?_
     ·refine aa (aJ gY rfl 1 rfl wz (aK 0 0 il ft sz3 ag3 rfl rfl (vI x_5.At) rfl wz ?_))
      obtain ⟨r_19,hr_20,h_18⟩:=bind_some h_18
      refine aH (jF hr_20) rfl Gy rfl rfl rfl rfl wz (ae (vB (!r_19)) wz rfl ?_)
      rcases ak h_18 with⟨hc_21,h_18⟩|⟨hc_21,h_18⟩
      ·refine aC rfl hc_21 wz (aj wa (aj wa (aj wa (aj wa (ae (vB true) wz rfl (ae (vB true) wz rfl (ai ?_)))))))
       obtain rfl:=ah h_18
       exact cu
      ·refine aC rfl hc_21 wz (aJ gm rfl 2 rfl wa (aK 0 0 il ft sz3 ag3 rfl rfl (vI x_5.Clock) rfl wa ?_))
       obtain ⟨r_22,hr_23,h_18⟩:=bind_some h_18
       refine aH (jF hr_23) rfl Gy rfl rfl rfl rfl wa (ae (vB (!r_22)) wa rfl (ae (vB (!r_22)) wz rfl (ae (vB (!r_22)) wz rfl (ai ?_))))
       obtain rfl:=ah h_18
       exact cu
     ·rintro ⟨⟩ _ sl_ H_ hp_ hq_
      refine aQ _ hp_ hq_ ?_
      rcases ak hc_9 with⟨hc_24,hc_9⟩|⟨hc_24,hc_9⟩
      ·refine ay rfl hc_24 (af (aa (ae (vI 1) wz rfl (ai ?_))))
       obtain rfl:=ah hc_9
       obtain rfl:=ah hL_10
       obtain rfl:=ah hF
       exact aB (bu (.inr rfl) [(vI 1)] ⟨rfl,trivial⟩ rfl rfl rfl)
      ·refine aA rfl hc_24 (av (af (af (aa (ae (vI (k_3:Int)) wz rfl (ae (vB ((k_3:Int)==0)) wz rfl (ai ?_)))))))
       rcases ak hc_9 with⟨hc_25,hc_9⟩|⟨hc_25,hc_9⟩
       ·refine ay rfl hc_25 (aY (aa (gW (dh hD_6 hn_7) wz rfl (ae (vI ((k_3+1:Nat):Int)) wz rfl (ai ?_)))))
        obtain rfl:=ah hc_9
        exact bf (k_3+1,l_4,()) ⟨hL_10,aU hD_6⟩ (ls_ _) rfl (aL rfl)
       ·refine aA rfl hc_25 (av (af (aa (ae (vL Beat.enc l_1) wz rfl (ae (vI (k_3:Int)) wz rfl (ae (vI (w64 ((k_3:Int)-1))) wz rfl ?_))))))
        obtain ⟨y_26,hy_27,hc_9⟩:=bind_some hc_9
        refine fH oN rfl rfl hy_27 rfl wz (cO iP oW rfl (.d (.agg (Beat.enc y_26))) rfl wz (gM 0 (.inl rfl) yc rfl wz (λn_28=>jE 0 il ft 1 iP rfl rfl [(vS y_26.Player),(vI y_26.At),(vI y_26.Clock)] rfl wz (ai (ax (af ?_))))))
        obtain ⟨v_29,h_30,hc_9⟩:=bind_some hc_9
        refine aG (β:=Unit) (λ_=>([(0,(vL Beat.enc l_1)),(4,(.ref n_13 0 0)),(5,(.ref n_28 0 0)),(9,(vL Beat.enc l_1)),(10,(vI (l_1.length:Int))),(11,(vI (k_3:Int))),(39,(vB v_29))]:SL_)) (λ_=>([(n_13,some (.cells 3 [(vS x_5.Player),(vI x_5.At),(vI x_5.Clock)])),(n_28,some (.cells 3 [(vS y_26.Player),(vI y_26.At),(vI y_26.Clock)]))]:Hp)) (λ_=>True) ?_ ?_
        ·refine aa (aJ gZ rfl 0 rfl wz (aK 0 0 il ft sz9 ag9 rfl rfl (vS x_5.Player) rfl wz (aJ gZ rfl 0 rfl wz (aK 0 1 il ft sz9 ag9 rfl rfl (vS y_26.Player) rfl wz (ae (vB (sLt x_5.Player y_26.Player)) wz rfl ?_)))))
         rcases ak h_30 with⟨hc_31,h_30⟩|⟨hc_31,h_30⟩
         ·refine aC rfl hc_31 wz (aj wa (aj wa (aj wa (aj wa (aj wa (aj wa (aj (wn rfl rfl) (aj (wn rfl rfl) (aj (wn rfl rfl) (aj (wn rfl rfl) (aj (wn rfl rfl) (aj wa (ae (vB true) wz rfl (ae (vB true) wz rfl (ai ?_)))))))))))))))
          obtain rfl:=ah h_30
          exact cu
         ·refine aC rfl hc_31 wz (aJ gZ rfl 0 rfl wa (aK 0 0 il ft sz9 ag9 rfl rfl (vS x_5.Player) rfl wa (aJ gZ rfl 0 rfl wa (aK 0 1 il ft sz9 ag9 rfl rfl (vS y_26.Player) rfl wa (ae (vB (sEq x_5.Player y_26.Player)) wa rfl ?_)))))
          rcases ak h_30 with⟨hc_32,h_30⟩|⟨hc_32,h_30⟩
          ·refine aC rfl hc_32 wa (aJ gY rfl 1 rfl wa (aK 0 0 il ft sz3 ag3 rfl rfl (vI x_5.At) rfl wa (aJ gY rfl 1 rfl wa (aK 0 1 il ft sz3 ag3 rfl rfl (vI y_26.At) rfl wa (ae (vB (decide (x_5.At<=y_26.At))) wa rfl (ae (vB (decide (x_5.At<=y_26.At))) wa rfl (ae (vB (decide (x_5.At<=y_26.At))) wz rfl (ae (vB (decide (x_5.At<=y_26.At))) wz rfl (ai ?_)))))))))
           obtain rfl:=ah h_30
           exact cu
          ·refine aC rfl hc_32 wa (aj wa (aj wa (aj wa (aj wa (aj wa (ae (vB false) wa rfl (ae (vB false) wz rfl (ae (vB false) wz rfl (ai ?_)))))))))
           obtain rfl:=ah h_30
           exact cu
        ·rintro ⟨⟩ _ sl_ H_ hp_ hq_
         refine aQ _ hp_ hq_ ?_
         rcases ak hc_9 with⟨hc_33,hc_9⟩|⟨hc_33,hc_9⟩
         ·refine ay rfl hc_33 (af (aa (ae (vI 7) wz rfl (ai ?_))))
          obtain rfl:=ah hc_9
          obtain rfl:=ah hL_10
          obtain rfl:=ah hF
          exact aB (bu (.inr rfl) [(vI 7)] ⟨rfl,trivial⟩ rfl rfl rfl)
         ·refine aA rfl hc_33 (af ?_)
          obtain ⟨v_34,h_35,hc_9⟩:=bind_some hc_9
          refine aG (β:=Unit) (λ_=>([(0,(vL Beat.enc l_1)),(9,(vL Beat.enc l_1)),(10,(vI (l_1.length:Int))),(11,(vI (k_3:Int))),(59,(vB v_34))]:SL_)) (λ_=>([(n_13,some (.cells 3 [(vS x_5.Player),(vI x_5.At),(vI x_5.Clock)])),(n_28,some (.cells 3 [(vS y_26.Player),(vI y_26.At),(vI y_26.Clock)]))]:Hp)) (λ_=>True) ?_ ?_
          ·refine aa (aJ gZ rfl 0 rfl wz (aK 0 0 il ft sz9 ag9 rfl rfl (vS x_5.Player) rfl wz (aJ gZ rfl 0 rfl wz (aK 0 1 il ft sz9 ag9 rfl rfl (vS y_26.Player) rfl wz (ae (vB (sEq x_5.Player y_26.Player)) wz rfl ?_)))))
           rcases ak h_35 with⟨hc_36,h_35⟩|⟨hc_36,h_35⟩
           ·refine aC rfl hc_36 wz (aJ gm rfl 2 rfl wa (aK 0 0 il ft sz3 ag3 rfl rfl (vI x_5.Clock) rfl wa (aJ gm rfl 2 rfl wa (aK 0 1 il ft sz3 ag3 rfl rfl (vI y_26.Clock) rfl wa (ae (vB (decide (x_5.Clock<=y_26.Clock))) wa rfl (ae (vB (decide (x_5.Clock<=y_26.Clock))) wz rfl (ae (vB (decide (x_5.Clock<=y_26.Clock))) wz rfl (ai ?_))))))))
            obtain rfl:=ah h_35
            exact cu
           ·refine aC rfl hc_36 wz (aj wa (aj wa (aj wa (aj wa (aj wa (ae (vB false) wz rfl (ae (vB false) wz rfl (ai ?_))))))))
            obtain rfl:=ah h_35
            exact cu
          ·rintro ⟨⟩ _ sl_ H_ hp_ hq_
           refine aQ _ hp_ hq_ ?_
           rcases ak hc_9 with⟨hc_37,hc_9⟩|⟨hc_37,hc_9⟩
           ·refine ay rfl hc_37 (af (aa (ae (vI 16) wz rfl (ai ?_))))
            obtain rfl:=ah hc_9
            obtain rfl:=ah hL_10
            obtain rfl:=ah hF
            exact aB (bu (.inr rfl) [(vI 16)] ⟨rfl,trivial⟩ rfl rfl rfl)
           ·refine aA rfl hc_37 (av (aa (gW (dh hD_6 hn_7) wz rfl (ae (vI ((k_3+1:Nat):Int)) wz rfl (ai ?_)))))
            obtain rfl:=ah hc_9
            exact bf (k_3+1,l_4,()) ⟨hL_10,aU hD_6⟩ (ls_ _) rfl (aL rfl)
  ·rintro s_8 ho_ sl_ H_ hp_ hq_
   subst ho_
   refine aQ _ hp_ hq_ (af (aa (ae (vI 0) wz rfl (ai ?_))))
   obtain rfl:=ah hF
   exact aB (bu (.inr rfl) [(vI 0)] ⟨rfl,trivial⟩ rfl rfl rfl)
theorem BM {l_1:(List Int)} {r:Int} (hF:pq l_1=some r) :
  FnM Tryz.prog 14 [(vL eI l_1)] [] (vI r) []:=by
 refine FnM.of_wH ⟨Tryz.prog,15,[],[]⟩ rfl Tryz.func14 rfl rfl (lb_ rfl) (by kernel_rfl) ?_
 unfold pq at hF
 refine af (aa (ae (vI 0) wz rfl (ai (af (af (aa (ae (vL eI l_1) wz rfl (eY un90 rfl wz (ae (vI 0) wz rfl (ai ?_))))))))))
 obtain ⟨o_10,hj_11,hF⟩:=bind_some hF
 obtain ⟨hn_6,hj_11⟩:=bX hj_11
 refine aG (β:=(Unit)) (λ(s_7:Unit)=>([]:SL_)) (λ(s_7:Unit)=>([]:Hp)) (λp=>o_10 = .go p) ?_ ?_
 ·refine ax (bA (β:=Nat×(List Int)×(Unit)) (λp=>(λ(k_2:Nat) (l_3:List Int) (s_7:Unit)=>([(5,(vL eI l_1)),(6,(vI (l_1.length:Int))),(7,(vI (k_2:Int)))]:SL_)) p.1 p.2.1 p.2.2) (λp=>(λ(k_2:Nat) (l_3:List Int) (s_7:Unit)=>([]:Hp)) p.1 p.2.1 p.2.2) (λp=>dY (λk x s=>mO k x s) p.2.1 p.1 p.2.2=some o_10/\(l_1).drop p.1=p.2.1) (λp=>p.2.1.length) (0,l_1,()) ⟨hj_11,rfl⟩ rfl (aL rfl) ?_)
  rintro ⟨k_2,l_3,s_7⟩ ⟨hL_9,hD_5⟩
  dsimp only at hL_9 hD_5
  cases l_3 with
  | nil =>
   obtain rfl:=ah hL_9
   refine af (aa (ae (vB (decide ((k_2:Int)<(l_1.length:Int)))) wz rfl (ai ?_)))
   refine af (aA rfl (drop_nil hD_5) (aY ?_))
   exact bz (s_7) rfl rfl (aL rfl)
  | cons x_4 l_3 =>
   obtain ⟨c_,hc_8,hL_9⟩:=bind_some hL_9
   refine af (aa (ae (vB (decide ((k_2:Int)<(l_1.length:Int)))) wz rfl (ai ?_)))
   refine af (ay rfl (ek hD_5) (av ?_))
   unfold mO at hc_8
   refine af (ax (af (aa (fH es90 rfl rfl (eU hD_5) rfl wz (cO sz28 ag28 rfl (vI x_4) rfl wz (ae (vI x_4) wz rfl (ai (af (aa (ae (vI x_4) wz rfl (ae (vB (x_4 != 0)) wz rfl (ai ?_))))))))))))
   rcases ak hc_8 with⟨hc_12,hc_8⟩|⟨hc_12,hc_8⟩
   ·refine ay rfl hc_12 (af (aa (ae (vI x_4) wz rfl (ae (vI x_4) wz rfl (ai ?_)))))
    obtain rfl:=ah hc_8
    obtain rfl:=ah hL_9
    obtain rfl:=ah hF
    exact aB (bu (.inr rfl) [(vI x_4)] ⟨rfl,trivial⟩ rfl rfl rfl)
   ·refine aA rfl hc_12 (av (aa (gW (dh hD_5 hn_6) wz rfl (ae (vI ((k_2+1:Nat):Int)) wz rfl (ai ?_)))))
    obtain rfl:=ah hc_8
    exact bf (k_2+1,l_3,()) ⟨hL_9,aU hD_5⟩ (ls_ _) rfl (aL rfl)
 ·rintro s_7 ho_ sl_ H_ hp_ hq_
  subst ho_
  refine aQ _ hp_ hq_ (af (aa (ae (vI 0) wz rfl (ai ?_))))
  obtain rfl:=ah hF
  exact aB (bu (.inr rfl) [(vI 0)] ⟨rfl,trivial⟩ rfl rfl rfl)
theorem xX {l_1:(List Beat)} {player_2:ByteArray} {n_3:Int} {back_4:Bool} {r:Int×Int} (hF:kr l_1 player_2 n_3 back_4=some r) :
  FnM Tryz.prog 114 [(vL Beat.enc l_1),(vS player_2),(vI n_3),(vB back_4)] [] (.tup [(vI r.1),(vI r.2)]) []:=by
 refine FnM.of_wH ⟨Tryz.prog,30,[],[]⟩ rfl Tryz.func114 rfl rfl (lb_ rfl) (by kernel_rfl) ?_
 unfold kr at hF
 refine af (aa (ae (vI 0) wz rfl (ae (vI 0) wz rfl (ai (af (af (aa (ae (vL Beat.enc l_1) wz rfl ?_))))))))
 obtain ⟨r_5,hr_6,hF⟩:=bind_some hF
 refine aH (lM hr_6) rfl hb100 rfl rfl rfl rfl wz (ae (vI r_5) wz rfl (ai (af (aa (ae (vI r_5) wz rfl (ae (vB (r_5 != 0)) wz rfl (ai ?_)))))))
 rcases ak hF with⟨hc_7,hF⟩|⟨hc_7,hF⟩
 ·refine ay rfl hc_7 (af (aa (ae (vI r_5) wz rfl (ae (vI 0) wz rfl (ae (vI r_5) wz rfl (ai ?_))))))
  obtain rfl:=ah hF
  exact aB (bu (.inr rfl) [(vI 0),(vI r_5)] ⟨rfl,⟨rfl,trivial⟩⟩ rfl rfl rfl)
 ·refine aA rfl hc_7 (av (af (af (aa (ae (vS player_2) wz rfl ?_)))))
  obtain ⟨r_8,hr_9,hF⟩:=bind_some hF
  refine aH (lV hr_9) rfl Eb rfl rfl rfl rfl wz (ae (vB (!r_8)) wz rfl (ai ?_))
  rcases ak hF with⟨hc_10,hF⟩|⟨hc_10,hF⟩
  ·refine ay rfl hc_10 (af (aa (ae (vI 0) wz rfl (ae (vI 5) wz rfl (ai ?_)))))
   obtain rfl:=ah hF
   exact aB (bu (.inr rfl) [(vI 0),(vI 5)] ⟨rfl,⟨rfl,trivial⟩⟩ rfl rfl rfl)
  ·refine aA rfl hc_10 (av (af (af (aa (ae (vI n_3) wz rfl ?_)))))
   obtain ⟨r_11,hr_12,hF⟩:=bind_some hF
   refine aH (gy hr_12) rfl yG rfl rfl rfl rfl wz (ae (vB (!r_11)) wz rfl (ai ?_))
   rcases ak hF with⟨hc_13,hF⟩|⟨hc_13,hF⟩
   ·refine ay rfl hc_13 (af (aa (ae (vI 0) wz rfl (ae (vI 1) wz rfl (ai ?_)))))
    obtain rfl:=ah hF
    exact aB (bu (.inr rfl) [(vI 0),(vI 1)] ⟨rfl,⟨rfl,trivial⟩⟩ rfl rfl rfl)
   ·refine aA rfl hc_13 (av (af (aa (ae (vL Beat.enc l_1) wz rfl (ae (vS player_2) wz rfl (ae (vB back_4) wz rfl ?_))))))
    obtain ⟨r_14,hr_15,hF⟩:=bind_some hF
    refine aH (nZ hr_15) rfl hb131 rfl rfl rfl rfl wz (ae (vI n_3) wz rfl ?_)
    obtain ⟨r_16,hr_17,hF⟩:=bind_some hF
    refine aH (oP hr_17) rfl hb132 rfl rfl rfl rfl wz (ae (vI r_16.1) wz rfl (ae (vI r_16.2) wz rfl (ae (vI r_16.1) wz rfl (ae (vI r_16.2) wz rfl (ai ?_)))))
    obtain rfl:=ah hF
    exact aB (bu (.inr rfl) [(vI r_16.1),(vI r_16.2)] ⟨rfl,⟨rfl,trivial⟩⟩ rfl rfl rfl)
theorem xk {l_1:(List Beat)} {player_2:ByteArray} {clock_3:Int} {r:Int×Int} (hF:mR l_1 player_2 clock_3=some r) :
  FnM Tryz.prog 76 [(vL Beat.enc l_1),(vS player_2),(vI clock_3)] [] (.tup [(vI r.1),(vI r.2)]) []:=by
 refine FnM.of_wH ⟨Tryz.prog,14,[],[]⟩ rfl Tryz.func76 rfl rfl (lb_ rfl) (by kernel_rfl) ?_
 unfold mR at hF
 refine af (aa (ae (vI 0) wz rfl (ae (vI 0) wz rfl (ai (af (aa (ae (vL Beat.enc l_1) wz rfl (ae (vS player_2) wz rfl (ae (vI clock_3) wz rfl ?_)))))))))
 obtain ⟨r_4,hr_5,hF⟩:=bind_some hF
 refine aH (xX hr_5) rfl hb114 rfl rfl rfl rfl wz (ae (vI r_4.1) wz rfl (ae (vI r_4.2) wz rfl (ae (vI r_4.1) wz rfl (ae (vI r_4.2) wz rfl (ai ?_)))))
 obtain rfl:=ah hF
 exact aB (bu (.inr rfl) [(vI r_4.1),(vI r_4.2)] ⟨rfl,⟨rfl,trivial⟩⟩ rfl rfl rfl)
theorem qL {r:Bool} (hF:kR  = some r) :
  FnM Tryz.prog 28 [] [] (vB r) []:=by
 refine FnM.of_wH ⟨Tryz.prog,16,[],[]⟩ rfl Tryz.func28 rfl rfl (lb_ rfl) (by kernel_rfl) ?_
 unfold kR at hF
 refine af (aa (ae (vB false) wz rfl (ai (af (aa (ae (.d (.agg (Beat.enc (⟨(⟨#[112]⟩:ByteArray),0,100⟩:Beat)))) wz (by kernel_rfl) (ae (.d (.agg (Beat.enc (⟨(⟨#[112]⟩:ByteArray),1000,1300⟩:Beat)))) wz (by kernel_rfl) (fw (([(⟨(⟨#[112]⟩:ByteArray),0,100⟩:Beat),(⟨(⟨#[112]⟩:ByteArray),1000,1300⟩:Beat)]:List Beat).map Beat.enc) oN ez74 rfl rfl rfl rfl rfl wz ?_))))))))
 obtain ⟨r_1,hr_2,hF⟩:=bind_some hF
 refine aH (xk hr_2) rfl hb76 rfl rfl rfl rfl wz (ae (.tup [(vI r_1.1),(vI r_1.2)]) wz rfl (ae (vI r_1.1) wz rfl (ae (vI r_1.2) wz rfl (ae (vI r_1.1) wz rfl (ae (vI r_1.2) wz rfl (ai (af ?_)))))))
 obtain ⟨v_3,h_4,hF⟩:=bind_some hF
 refine aG (β:=Unit) (λ_=>([(0,(vB v_3))]:SL_)) (λ_=>([]:Hp)) (λ_=>True) ?_ ?_
 ·refine aa (ae (vI r_1.2) wz rfl (ae (vB (r_1.2==0)) wz rfl ?_))
  rcases ak h_4 with⟨hc_5,h_4⟩|⟨hc_5,h_4⟩
  ·refine aC rfl hc_5 wz (ae (vI r_1.1) wa rfl (ae (vB (r_1.1==500)) wa rfl (ae (vB (r_1.1==500)) wz rfl (ae (vB (r_1.1==500)) wz rfl (ai ?_)))))
   obtain rfl:=ah h_4
   exact cu
  ·refine aC rfl hc_5 wz (aj wa (aj wa (ae (vB false) wz rfl (ae (vB false) wz rfl (ai ?_)))))
   obtain rfl:=ah h_4
   exact cu
 ·rintro ⟨⟩ _ sl_ H_ hp_ hq_
  refine aQ _ hp_ hq_ ?_
  obtain rfl:=ah hF
  exact aB (bu (.inr rfl) [(vB v_3)] ⟨rfl,trivial⟩ rfl rfl rfl)
end Go.Proofs.YtdenjndllgahgaaGreatDoor.Law

