/-
 The machine computes these plain functions (written by a program of ours).
-/
import Derived.Test.YtjhcehhmdmbleaaGreatDoorFacts
import Derived.Test.YtjhcehhmdmbleaaGreatDoorDefs
import Derived.Test.YtjhcehhmdmbleaaGreatDoorPf2
open Go Go.Eng Go.Proofs
namespace Go.Proofs.YtjhcehhmdmbleaaGreatDoor.Law
set_option maxRecDepth 100000
set_option linter.unusedVariables false
set_option maxHeartbeats 1000000
theorem iT {s_1:(List Span)} {del2_3:(List Int)} {del2_4:Int} {r:(List Span)} (hF:bD s_1 del2_3 del2_4=some r) :
  FnM Tryz.prog 174 [(vV (ax 2) 3 s_1),(.fn 175 [(.ref (ax 0) 0 0),(.ref (ax 1) 0 0)])] (([(.cells 1 [(vL eI del2_3)]),(.cells 1 [(vI del2_4)])]:List Box) ++ [(bV 3 Span.enc s_1)]) (vV (ax 2) 3 r) ((([(.cells 1 [(vL eI del2_3)]),(.cells 1 [(vI del2_4)])]:List Box)).map some ++ [some (bV 3 Span.enc r)]):=by
 refine FnM.of_wH ⟨Tryz.prog,42,[],[]⟩ rfl Tryz.func174 rfl rfl (Nat.le_of_ble_eq_true rfl) (by kernel_rfl) ?_
 unfold bD at hF
 refine af (aa (ae .nil wz rfl (ak (af (aa (ae (vV (ax 2) 3 s_1) wz rfl (ae (.fn 175 [(.ref (ax 0) 0 0),(.ref (ax 1) 0 0)]) wz rfl ?_)))))))
 obtain ⟨r_5,hr_6,hF⟩:=bind_some hF
 refine IE 0 [0,1] 2 0 il ft (iZ hr_6) rfl hb230 rfl rfl rfl (by kernel_rfl) rfl rfl (by kernel_rfl) (by kernel_rfl) (by kernel_rfl) (by kernel_rfl) rfl (by decide) (by kernel_rfl) bV_ok wz (vI r_5) (by kernel_rfl) ([((ax 0),some (.cells 1 [(vL eI del2_3)])),((ax 1),some (.cells 1 [(vI del2_4)])),((ax 2),some (bV 3 Span.enc s_1))]:Hp) (by kernel_rfl) (ae (vI r_5) wz rfl (ak (af (af (aa (ae (vI r_5) wz rfl (ae (vB (r_5 == (-1))) wz rfl (ak ?_))))))))
 rcases au hF with⟨hc_7,hF⟩ | ⟨hc_7,hF⟩
 ·refine aB rfl hc_7 (af (aa (ae (vV (ax 2) 3 s_1) wz rfl (ae (vV (ax 2) 3 s_1) wz rfl (ak ?_)))))
  obtain rfl:=ah hF
  exact aC (x8 (.inr rfl) [(vV (ax 2) 3 s_1)] _ [0,1,2] [ax 0,ax 1,ax 2] ⟨rfl,trivial⟩ (.cons (Cw _) (.nil)) (by kernel_rfl) ⟨(by kernel_rfl),⟨(by kernel_rfl),⟨(by kernel_rfl),trivial⟩⟩⟩ (by decide) (by kernel_rfl))
 ·refine ay rfl hc_7 (av (af (af (aa (ae (vI r_5) wz rfl (ae (vI (w64 (r_5 + 1))) wz rfl (ae (vI (w64 (r_5 + 1))) wz rfl (ak ?_))))))))
  obtain ⟨o_16,hj_17,hF⟩:=bind_some hF
  obtain ⟨nq_34,hj_17⟩:=cK hj_17
  refine aH (β:=((List Span)×Int×Int)) (fun (s_13:(List Span)×Int×Int)=>([(0,(vV (ax 2) 3 s_13.1)),(5,(vI s_13.2.1))]:List (Nat×V))) (fun (s_13:(List Span)×Int×Int)=>([((ax 0),some (.cells 1 [(vL eI del2_3)])),((ax 1),some (.cells 1 [(vI del2_4)])),((ax 2),some (bV 3 Span.enc s_13.1))]:Hp)) (fun p=>o_16 = .go p) ?_ ?_
  ·refine aF (aV (β:=Nat×((List Span)×Int×Int)) (fun p=>(fun (k_8:Nat) (s_13:(List Span)×Int×Int)=>([(0,(vV (ax 2) 3 s_13.1)),(1,(.fn 175 [(.ref (ax 0) 0 0),(.ref (ax 1) 0 0)])),(5,(vI s_13.2.1)),(6,(vI s_13.2.2))]:List (Nat×V))) p.1 p.2) (fun p=>(fun (k_8:Nat) (s_13:(List Span)×Int×Int)=>([((ax 0),some (.cells 1 [(vL eI del2_3)])),((ax 1),some (.cells 1 [(vI del2_4)])),((ax 2),some (bV 3 Span.enc s_13.1))]:Hp)) p.1 p.2) (fun p=>iterN (fun s=>dz del2_3 del2_4 s) p.1 p.2=some o_16) (fun p=>p.1) (nq_34,(s_1,r_5,(w64 (r_5 + 1)))) hj_17 rfl (aJ rfl) ?_)
   rintro ⟨k_8,s_13⟩ hL_15
   dsimp only at hL_15
   cases k_8 with
   | zero=>cases hL_15
   | succ k_8 =>
    obtain ⟨c_,hc_14,hL_15⟩:=bind_some hL_15
    unfold dz at hc_14
    refine af (af (aa (ae (vI s_13.2.2) wz rfl (ae (vV (ax 2) 3 s_13.1) wz rfl (FJ sG rfl wz (ae (vB (decide (s_13.2.2 < (s_13.1.length:Int)))) wz rfl (ak ?_)))))))
    rcases au hc_14 with⟨hc_18,hc_14⟩ | ⟨hc_18,hc_14⟩
    ·refine aB rfl hc_18 (av (af (aF (af (aa (ae (vV (ax 2) 3 s_13.1) wz rfl (ae (vI s_13.2.2) wz rfl ?_)))))))
     obtain ⟨_,hi_19,hc_14⟩:=bind_some hc_14
     refine Aa mO rfl rfl (jf hi_19) (gu hi_19) wz ?_
     obtain ⟨e_20,hy_21,hc_14⟩:=bind_some hc_14
     refine EE 0 2 il ft iO oD rfl rfl hy_21 (.d (.agg (Span.enc e_20))) rfl wz (dm 0 (.inl rfl) F4 rfl wz (fun n_22=>eY 0 il ft 3 iO rfl rfl [(.d (dP Entry.enc e_20.f_e)),(vI e_20.f_time.From),(vI e_20.f_time.To)] (xC rfl (bC (kz _ _) (bC rfl (bC rfl rfl))) rfl rfl) wz (ak (af (aa (ae (.fn 175 [(.ref (ax 0) 0 0),(.ref (ax 1) 0 0)]) wz rfl (aA 0 3 il ft iO oD rfl rfl (.d (.agg (Span.enc e_20))) rfl wz ?_)))))))
     obtain ⟨r_23,hr_24,hc_14⟩:=bind_some hc_14
     refine eO 0 [0,1] il ft (kT hr_24) rfl MZ rfl (by kernel_rfl) (by kernel_rfl) (by kernel_rfl) (by kernel_rfl) (by kernel_rfl) (by kernel_rfl) (by kernel_rfl) (by decide) (by kernel_rfl) wz (vB r_23) (by kernel_rfl) ([((ax 0),some (.cells 1 [(vL eI del2_3)])),((ax 1),some (.cells 1 [(vI del2_4)])),((ax 2),some (bV 3 Span.enc s_13.1)),(n_22,some (.cells 3 [(.d (dP Entry.enc e_20.f_e)),(vI e_20.f_time.From),(vI e_20.f_time.To)]))]:Hp) (by kernel_rfl) (ae (vB (!r_23)) wz rfl (ak ?_))
     obtain ⟨v_26,h_27,hc_14⟩:=bind_some hc_14
     refine aH (β:=Unit) (fun _=>([(0,(vV (ax 2) 3 v_26.1)),(1,(.fn 175 [(.ref (ax 0) 0 0),(.ref (ax 1) 0 0)])),(5,(vI v_26.2)),(6,(vI s_13.2.2))]:List (Nat×V))) (fun _=>([((ax 0),some (.cells 1 [(vL eI del2_3)])),((ax 1),some (.cells 1 [(vI del2_4)])),((ax 2),some (bV 3 Span.enc v_26.1)),(n_22,some (.cells 3 [(.d (dP Entry.enc e_20.f_e)),(vI e_20.f_time.From),(vI e_20.f_time.To)]))]:Hp)) (fun _=>True) ?_ ?_
     ·rcases au h_27 with⟨hc_28,h_27⟩ | ⟨hc_28,h_27⟩
      ·refine aB rfl hc_28 (af (aa (ae (vV (ax 2) 3 s_13.1) wz rfl (ae (vI s_13.2.1) wz rfl (aA 0 3 il ft iO oD rfl rfl (.d (.agg (Span.enc e_20))) rfl wz ?_)))))
       obtain ⟨_,hi_29,h_27⟩:=bind_some h_27
       refine Aa mO rfl rfl (jf hi_29) (gu hi_29) wz ?_
       obtain ⟨e_30,hy_31,h_27⟩:=bind_some h_27
       refine MI 0 il ft 2 iO rfl rfl hy_31 e_20 (FH rfl rfl (bC (kz _ _) (bC rfl (bC rfl rfl))) rfl rfl) wz (dN (v':=(vV (ax 2) 3 (s_13.1.set (0 + (s_13.2.1).toNat) e_20))) 0 rfl (sK (by simp)) (dN (v':=(vV (ax 2) 3 (s_13.1.set (0 + (s_13.2.1).toNat) e_20))) 17 rfl (sK (by simp)) (dN (v':=(vV (ax 2) 3 (s_13.1.set (0 + (s_13.2.1).toNat) e_20))) 22 rfl (sK (by simp)) (dN (v':=(vV (ax 2) 3 (s_13.1.set (0 + (s_13.2.1).toNat) e_20))) 30 rfl (sK (by simp)) (ak (aa (ae (vI s_13.2.1) wz rfl (ae (vI (w64 (s_13.2.1 + 1))) wz rfl (ae (vI (w64 (s_13.2.1 + 1))) wz rfl (ak ?_))))))))))
       obtain rfl:=ah h_27
       exact cu
      ·refine ay rfl hc_28 (av ?_)
       obtain rfl:=ah h_27
       exact cu
     ·rintro ⟨⟩ _ sl_ H_ hp_ hq_
      refine aL _ hp_ hq_ (aa (ae (vI s_13.2.2) wz rfl (ae (vI (w64 (s_13.2.2 + 1))) wz rfl (ae (vI (w64 (s_13.2.2 + 1))) wz rfl (ak ?_)))))
      obtain rfl:=ah hc_14
      exact aP (k_8,(v_26.1,v_26.2,(w64 (s_13.2.2 + 1)))) hL_15 (Nat.lt_succ_self _) rfl (aJ rfl)
    ·refine ay rfl hc_18 (aQ ?_)
     obtain rfl:=ah hc_14
     obtain rfl:=ah hL_15
     exact aR ((s_13.1,s_13.2.1,s_13.2.2)) rfl rfl (aJ rfl)
  ·rintro s_13 ho_ sl_ H_ hp_ hq_
   subst ho_
   refine aL _ hp_ hq_ (af (aa (ae (vV (ax 2) 3 s_13.1) wz rfl (ae (vI s_13.2.1) wz rfl ?_))))
   obtain ⟨_,hr_32,hF⟩:=bind_some hF
   refine DW sG iO rfl rfl hr_32 wz (J6 (i:=2) 0 il ft (⟨none,(⟨0,0⟩:Window)⟩:Span) Dv iO F4 rfl rfl rfl (by decide) rfl (qK hr_32) rfl wz (dN (v':=(vV (ax 2) 3 (s_13.1.take ((s_13.2.1).toNat)++List.replicate (((s_13.1.length:Int)).toNat - (s_13.2.1).toNat) (⟨none,(⟨0,0⟩:Window)⟩:Span)++s_13.1.drop (((s_13.2.1).toNat) + (((s_13.1.length:Int)).toNat - (s_13.2.1).toNat))))) 0 rfl (sK (xE (qK hr_32))) (dN (v':=(vV (ax 2) 3 (s_13.1.take ((s_13.2.1).toNat)++List.replicate (((s_13.1.length:Int)).toNat - (s_13.2.1).toNat) (⟨none,(⟨0,0⟩:Window)⟩:Span)++s_13.1.drop (((s_13.2.1).toNat) + (((s_13.1.length:Int)).toNat - (s_13.2.1).toNat))))) 36 rfl (sK (xE (qK hr_32))) (ak (af (aa (ae (vV (ax 2) 3 (s_13.1.take ((s_13.2.1).toNat)++List.replicate (((s_13.1.length:Int)).toNat - (s_13.2.1).toNat) (⟨none,(⟨0,0⟩:Window)⟩:Span)++s_13.1.drop (((s_13.2.1).toNat) + (((s_13.1.length:Int)).toNat - (s_13.2.1).toNat)))) wz rfl (ae (vI s_13.2.1) wz rfl ?_))))))))
   obtain ⟨_,hr_33,hF⟩:=bind_some hF
   refine H8 sG iO rfl rfl hr_33 wz (ae (.vs (ax 2) 3 0 ((s_13.2.1).toNat)) wz rfl (ak (wH_re (v':=(vV (ax 2) 3 ((s_13.1.take ((s_13.2.1).toNat)++List.replicate (((s_13.1.length:Int)).toNat - (s_13.2.1).toNat) (⟨none,(⟨0,0⟩:Window)⟩:Span)++s_13.1.drop (((s_13.2.1).toNat) + (((s_13.1.length:Int)).toNat - (s_13.2.1).toNat))).take ((s_13.2.1).toNat)))) 4 rfl (vV_take (qK hr_33)) (wH_shr 2 ((s_13.2.1).toNat) rfl ?_))))
   obtain rfl:=ah hF
   exact aC (x8 (.inr rfl) [(vV (ax 2) 3 ((s_13.1.take ((s_13.2.1).toNat)++List.replicate (((s_13.1.length:Int)).toNat - (s_13.2.1).toNat) (⟨none,(⟨0,0⟩:Window)⟩:Span)++s_13.1.drop (((s_13.2.1).toNat) + (((s_13.1.length:Int)).toNat - (s_13.2.1).toNat))).take ((s_13.2.1).toNat)))] _ [0,1,2] [ax 0,ax 1,ax 2] ⟨rfl,trivial⟩ (.cons (Cw _) (.nil)) (by kernel_rfl) ⟨(by kernel_rfl),⟨(by kernel_rfl),⟨(by kernel_rfl),trivial⟩⟩⟩ (by decide) (by kernel_rfl))
theorem jw {s_1:(List Span)} {f_2:Span→Option Bool} {r:Int} {gid:FuncId} {caps:List V} {Sin:List Box} (hfn:∀ x0 r,f_2 x0=some r→FnM Tryz.prog gid ([(.d (.agg (Span.enc x0)))]++caps) Sin (vB r) (Sin.map some)) (hbF:aK Tryz.prog gid=true) (hcapF:caps.flatMap frz = []∧caps.map co0=caps) (hokF:okL Sin.length caps=true) (hsF:∀ b∈Sin,b.ok Sin.length=true) (hmF:∀ b∈Sin,b.mut=true) (hF:bN s_1 f_2=some r) :
  FnM Tryz.prog 230 [(vL Span.enc s_1),(.fn gid caps)] Sin (vI r) (Sin.map some):=by
 refine FnM.of_wH ⟨Tryz.prog,19,[],[]⟩ rfl Tryz.func230 rfl rfl (Nat.le_of_ble_eq_true rfl) (by kernel_rfl) ?_
 unfold bN at hF
 refine af (aa (ae (vI 0) wz rfl (ak (af (af (aa (ae (vL Span.enc s_1) wz rfl (cz sG rfl wz (ae (vI 0) wz rfl (ak ?_))))))))))
 obtain ⟨o_11,hj_12,hF⟩:=bind_some hF
 obtain ⟨hn_7,hj_12⟩:=bA hj_12
 refine aH (β:=(Unit)) (fun (s_8:Unit)=>([]:List (Nat×V))) (fun (s_8:Unit)=>(nC 0 Sin)) (fun p=>o_11 = .go p) ?_ ?_
 ·refine aF (aV (β:=Nat×(List Span)×(Unit)) (fun p=>(fun (k_3:Nat) (l_4:List Span) (s_8:Unit)=>([(0,(vL Span.enc s_1)),(1,(.fn gid caps)),(7,(vI (s_1.length:Int))),(8,(vI (k_3:Int)))]:List (Nat×V))) p.1 p.2.1 p.2.2) (fun p=>(fun (k_3:Nat) (l_4:List Span) (s_8:Unit)=>(nC 0 Sin)) p.1 p.2.1 p.2.2) (fun p=>forR (fun k x s=>dI f_2 k x s) p.2.1 p.1 p.2.2=some o_11∧(s_1).drop p.1=p.2.1) (fun p=>p.2.1.length) (0,s_1,()) ⟨hj_12,rfl⟩ rfl (uh _) ?_)
  rintro ⟨k_3,l_4,s_8⟩ ⟨hL_10,hD_6⟩
  dsimp only at hL_10 hD_6
  cases l_4 with
  | nil =>
   obtain rfl:=ah hL_10
   refine af (aa (ae (vB (decide ((k_3:Int) < (s_1.length:Int)))) wz rfl (ak ?_)))
   refine af (ay rfl (drop_nil hD_6) (aQ ?_))
   exact aR (s_8) rfl rfl (uh _)
  | cons x_5 l_4 =>
   obtain ⟨c_,hc_9,hL_10⟩:=bind_some hL_10
   refine af (aa (ae (vB (decide ((k_3:Int) < (s_1.length:Int)))) wz rfl (ak ?_)))
   refine af (aB rfl (bI hD_6) (av ?_))
   unfold dI at hc_9
   refine af (aF (af (aa (ae (vI (k_3:Int)) wz rfl (ae (vI (k_3:Int)) wz rfl (ak (af (aa (ae (.fn gid caps) wz rfl (ae (vL Span.enc s_1) wz rfl (ae (vI (k_3:Int)) wz rfl (dL mO rfl rfl (bP hD_6) rfl wz (bG iO oD rfl (.d (.agg (Span.enc x_5))) rfl wz ?_)))))))))))))
   obtain ⟨r_13,hr_14,hc_9⟩:=bind_some hc_9
   refine F6 (hfn _ _ hr_14) rfl hbF rfl rfl hcapF hokF hsF hmF rfl wz rfl (ak ?_)
   rcases au hc_9 with⟨hc_15,hc_9⟩ | ⟨hc_15,hc_9⟩
   ·refine aB rfl hc_15 (af (aa (ae (vI (k_3:Int)) wz rfl (ae (vI (k_3:Int)) wz rfl (ak ?_)))))
    obtain rfl:=ah hc_9
    obtain rfl:=ah hL_10
    obtain rfl:=ah hF
    exact aC (Ls hsF (.inr rfl) [(vI (k_3:Int))] ⟨rfl,trivial⟩ rfl rfl rfl)
   ·refine ay rfl hc_15 (av (aa (fJ (bK hD_6 hn_7) wz rfl (ae (vI ((k_3 + 1:Nat):Int)) wz rfl (ak ?_)))))
    obtain rfl:=ah hc_9
    exact aP (k_3 + 1,l_4,()) ⟨hL_10,aW hD_6⟩ (Nat.lt_succ_self _) rfl (uh _)
 ·rintro s_8 ho_ sl_ H_ hp_ hq_
  subst ho_
  refine aL _ hp_ hq_ (af (aa (ae (vI (-1)) wz rfl (ak ?_))))
  obtain rfl:=ah hF
  exact aC (Ls hsF (.inr rfl) [(vI (-1))] ⟨rfl,trivial⟩ rfl rfl rfl)
theorem iU {del2_3:(List Int)} {del2_4:Int} {r:Unit} (hF:bB del2_3 del2_4=some r) :
  FnM Tryz.prog 174 [.nil,(.fn 175 [(.ref (ax 0) 0 0),(.ref (ax 1) 0 0)])] [(.cells 1 [(vL eI del2_3)]),(.cells 1 [(vI del2_4)])] .nil [some (.cells 1 [(vL eI del2_3)]),some (.cells 1 [(vI del2_4)])]:=by
 refine FnM.of_wH ⟨Tryz.prog,42,[],[]⟩ rfl Tryz.func174 rfl rfl (Nat.le_of_ble_eq_true rfl) (by kernel_rfl) ?_
 unfold bB at hF
 refine af (aa (ae .nil wz rfl (ak (af (aa (ae .nil wz rfl (ae (.fn 175 [(.ref (ax 0) 0 0),(.ref (ax 1) 0 0)]) wz rfl ?_)))))))
 obtain ⟨r_5,hr_6,hF⟩:=bind_some hF
 refine eO 0 [0,1] il ft (jw (gid:=175) (caps := [.ref (ax 0) 0 0,.ref (ax 1) 0 0]) (Sin := [(.cells 1 [(vL eI del2_3)]),(.cells 1 [(vI del2_4)])]) (fun _ _ h_=>kT h_) MZ ⟨rfl,rfl⟩ (by kernel_rfl) (MO (by kernel_rfl)) (JY (by kernel_rfl)) hr_6) rfl hb230 rfl (by kernel_rfl) (by kernel_rfl) (by kernel_rfl) (by kernel_rfl) (by kernel_rfl) (by kernel_rfl) (by kernel_rfl) (by decide) (by kernel_rfl) wz (vI r_5) (by kernel_rfl) ([((ax 0),some (.cells 1 [(vL eI del2_3)])),((ax 1),some (.cells 1 [(vI del2_4)]))]:Hp) (by kernel_rfl) (ae (vI r_5) wz rfl (ak (af (af (aa (ae (vI r_5) wz rfl (ae (vB (r_5 == (-1))) wz rfl (ak ?_))))))))
 rcases au hF with⟨hc_8,hF⟩ | ⟨hc_8,hF⟩
 ·refine aB rfl hc_8 (af (aa (ae .nil wz rfl (ae .nil wz rfl (ak ?_)))))
  obtain rfl:=ah hF
  exact aC (x8 (.inr rfl) [.nil] _ [0,1] [ax 0,ax 1] ⟨rfl,trivial⟩ (.cons (Cw _) (.nil)) (by kernel_rfl) ⟨(by kernel_rfl),⟨(by kernel_rfl),trivial⟩⟩ (by decide) (by kernel_rfl))
 ·refine ay rfl hc_8 (av (af (af (aa (ae (vI r_5) wz rfl (ae (vI (w64 (r_5 + 1))) wz rfl (ae (vI (w64 (r_5 + 1))) wz rfl (ak ?_))))))))
  obtain ⟨o_17,hj_18,hF⟩:=bind_some hF
  obtain ⟨nq_20,hj_18⟩:=cK hj_18
  refine aH (β:=(Unit)) (fun (s_14:Unit)=>([(0,.nil),(5,(vI r_5))]:List (Nat×V))) (fun (s_14:Unit)=>([((ax 0),some (.cells 1 [(vL eI del2_3)])),((ax 1),some (.cells 1 [(vI del2_4)]))]:Hp)) (fun p=>o_17 = .go p) ?_ ?_
  ·refine aF (aV (β:=Nat×(Unit)) (fun p=>(fun (k_9:Nat) (s_14:Unit)=>([(0,.nil),(1,(.fn 175 [(.ref (ax 0) 0 0),(.ref (ax 1) 0 0)])),(5,(vI r_5)),(6,(vI (w64 (r_5 + 1))))]:List (Nat×V))) p.1 p.2) (fun p=>(fun (k_9:Nat) (s_14:Unit)=>([((ax 0),some (.cells 1 [(vL eI del2_3)])),((ax 1),some (.cells 1 [(vI del2_4)]))]:Hp)) p.1 p.2) (fun p=>iterN (fun s=>dA r_5 s) p.1 p.2=some o_17) (fun p=>p.1) (nq_20,()) hj_18 rfl (aJ rfl) ?_)
   rintro ⟨k_9,s_14⟩ hL_16
   dsimp only at hL_16
   cases k_9 with
   | zero=>cases hL_16
   | succ k_9 =>
    obtain ⟨c_,hc_15,hL_16⟩:=bind_some hL_16
    unfold dA at hc_15
    refine af (af (aa (ae (vI (w64 (r_5 + 1))) wz rfl (ae .nil wz rfl (IM sG rfl wz (ae (vB (decide ((w64 (r_5 + 1)) < 0))) wz rfl (ak ?_)))))))
    rcases au hc_15 with⟨hc_19,hc_15⟩ | ⟨hc_19,hc_15⟩
    ·refine aB rfl hc_19 (av (af (aF (af (aa (ae .nil wz rfl (ae (vI (w64 (r_5 + 1))) wz rfl ?_)))))))
     cases hc_15
    ·refine ay rfl hc_19 (aQ ?_)
     obtain rfl:=ah hc_15
     obtain rfl:=ah hL_16
     exact aR (()) rfl rfl (aJ rfl)
  ·rintro s_14 ho_ sl_ H_ hp_ hq_
   subst ho_
   refine aL _ hp_ hq_ (af (aa (ae .nil wz rfl (ae (vI r_5) wz rfl ?_))))
   cases hF
theorem nJ {a_1:ByteArray} {b_2:ByteArray} {r:Int} (hF:ik a_1 b_2=some r) :
  FnM Tryz.prog 181 [(vS a_1),(vS b_2)] [] (vI r) []:=by
 refine FnM.of_wH ⟨Tryz.prog,8,[],[]⟩ rfl Tryz.func181 rfl rfl (Nat.le_of_ble_eq_true rfl) (by kernel_rfl) ?_
 unfold ik at hF
 refine af (aa (ae (vI 0) wz rfl (ak (af (aa (ae (vS a_1) wz rfl (ae (vS b_2) wz rfl (h_ext (Lj (f:=248) Tryz.func248 rfl rfl (by kernel_rfl) (by kernel_rfl) _ _) rfl nb248 rfl wz (ae (vI (BF a_1 b_2)) wz rfl (ak ?_))))))))))
 obtain rfl:=ah hF
 exact aC (aO (.inr rfl) [(vI (BF a_1 b_2))] ⟨rfl,trivial⟩ rfl rfl rfl)
theorem nu {a_1:ByteArray} {b_2:ByteArray} {r:Int} (hF:strings_Compare a_1 b_2=some r) :
  FnM Tryz.prog 108 [(vS a_1),(vS b_2)] [] (vI r) []:=by
 refine FnM.of_wH ⟨Tryz.prog,8,[],[]⟩ rfl Tryz.func108 rfl rfl (Nat.le_of_ble_eq_true rfl) (by kernel_rfl) ?_
 unfold strings_Compare at hF
 refine af (aa (ae (vI 0) wz rfl (ak (af (aa (ae (vS a_1) wz rfl (ae (vS b_2) wz rfl ?_)))))))
 obtain ⟨r_3,hr_4,hF⟩:=bind_some hF
 refine aG (nJ hr_4) rfl hb181 rfl rfl rfl rfl wz (ae (vI r_3) wz rfl (ak ?_))
 obtain rfl:=ah hF
 exact aC (aO (.inr rfl) [(vI r_3)] ⟨rfl,trivial⟩ rfl rfl rfl)
theorem sV {vals_1:(List Int)} {r:Int} (hF:ng vals_1=some r) :
  FnM Tryz.prog 107 [(vL eI vals_1)] [] (vI r) []:=by
 refine FnM.of_wH ⟨Tryz.prog,18,[],[]⟩ rfl Tryz.func107 rfl rfl (Nat.le_of_ble_eq_true rfl) (by kernel_rfl) ?_
 unfold ng at hF
 refine af (aa (ae (vI 0) wz rfl (ak (af (aa (ae (vI 0) wz rfl (ak (af (af (aa (ae (vL eI vals_1) wz rfl (cz wy rfl wz (ae (vI 0) wz rfl (ak ?_))))))))))))))
 obtain ⟨o_10,hj_11,hF⟩:=bind_some hF
 obtain ⟨hn_6,hj_11⟩:=bA hj_11
 refine aH (β:=(Unit)) (fun (s_7:Unit)=>([(3,(vI 0))]:List (Nat×V))) (fun (s_7:Unit)=>([]:Hp)) (fun p=>o_10 = .go p) ?_ ?_
 ·refine aF (aV (β:=Nat×(List Int)×(Unit)) (fun p=>(fun (k_2:Nat) (l_3:List Int) (s_7:Unit)=>([(3,(vI 0)),(6,(vL eI vals_1)),(7,(vI (vals_1.length:Int))),(8,(vI (k_2:Int)))]:List (Nat×V))) p.1 p.2.1 p.2.2) (fun p=>(fun (k_2:Nat) (l_3:List Int) (s_7:Unit)=>([]:Hp)) p.1 p.2.1 p.2.2) (fun p=>forR (fun k x s=>o8 k x s) p.2.1 p.1 p.2.2=some o_10∧(vals_1).drop p.1=p.2.1) (fun p=>p.2.1.length) (0,vals_1,()) ⟨hj_11,rfl⟩ rfl (aJ rfl) ?_)
  rintro ⟨k_2,l_3,s_7⟩ ⟨hL_9,hD_5⟩
  dsimp only at hL_9 hD_5
  cases l_3 with
  | nil =>
   obtain rfl:=ah hL_9
   refine af (aa (ae (vB (decide ((k_2:Int) < (vals_1.length:Int)))) wz rfl (ak ?_)))
   refine af (ay rfl (drop_nil hD_5) (aQ ?_))
   exact aR (s_7) rfl rfl (aJ rfl)
  | cons x_4 l_3 =>
   obtain ⟨c_,hc_8,hL_9⟩:=bind_some hL_9
   refine af (aa (ae (vB (decide ((k_2:Int) < (vals_1.length:Int)))) wz rfl (ak ?_)))
   refine af (aB rfl (bI hD_5) (av ?_))
   unfold o8 at hc_8
   refine af (aF (af (aa (dL kE rfl rfl (bP hD_5) rfl wz (bG sz3 ag3 rfl (vI x_4) rfl wz (ae (vI x_4) wz rfl (ak (af (aa (ae (vI x_4) wz rfl (ae (vI 0) wz rfl (ae (vB (x_4 != 0)) wz rfl (ak ?_)))))))))))))
   rcases au hc_8 with⟨hc_12,hc_8⟩ | ⟨hc_12,hc_8⟩
   ·refine aB rfl hc_12 (af (aa (ae (vI x_4) wz rfl (ae (vI x_4) wz rfl (ak ?_)))))
    obtain rfl:=ah hc_8
    obtain rfl:=ah hL_9
    obtain rfl:=ah hF
    exact aC (aO (.inr rfl) [(vI x_4)] ⟨rfl,trivial⟩ rfl rfl rfl)
   ·refine ay rfl hc_12 (av (aa (fJ (bK hD_5 hn_6) wz rfl (ae (vI ((k_2 + 1:Nat):Int)) wz rfl (ak ?_)))))
    obtain rfl:=ah hc_8
    exact aP (k_2 + 1,l_3,()) ⟨hL_9,aW hD_5⟩ (Nat.lt_succ_self _) rfl (aJ rfl)
 ·rintro s_7 ho_ sl_ H_ hp_ hq_
  subst ho_
  refine aL _ hp_ hq_ (af (aa (ae (vI 0) wz rfl (ae (vI 0) wz rfl (ak ?_)))))
  obtain rfl:=ah hF
  exact aC (aO (.inr rfl) [(vI 0)] ⟨rfl,trivial⟩ rfl rfl rfl)
theorem qB {a_1:Span} {b_2:Span} {r:Int} (hF:eZ a_1 b_2=some r) :
  FnM Tryz.prog 177 [(.d (.agg (Span.enc a_1))),(.d (.agg (Span.enc b_2)))] [] (vI r) []:=by
 refine FnM.of_wH ⟨Tryz.prog,36,[],[]⟩ rfl Tryz.func177 rfl rfl (Nat.le_of_ble_eq_true rfl) (by kernel_rfl) ?_
 unfold eZ at hF
 refine af (aa (dR 0 (.inl rfl) [(.d (dP Entry.enc a_1.f_e)),(vI a_1.f_time.From),(vI a_1.f_time.To)] rfl (bC (kz _ _) (bC rfl (bC rfl rfl))) wz (fun n_3=>dR 0 (.inl rfl) [(.d (dP Entry.enc b_2.f_e)),(vI b_2.f_time.From),(vI b_2.f_time.To)] rfl (bC (kz _ _) (bC rfl (bC rfl rfl))) wz (fun n_4=>ae (vI 0) wz rfl (ak (af (bn (aI xA rfl 0 rfl wz (aA 1 1 (.inr (by kernel_rfl)) (fun _ _ ag=>trivial) Fh E8 rfl rfl (.d (dP Entry.enc b_2.f_e)) rfl wz ?_)))))))))
 obtain ⟨y_5,hy_6,hF⟩:=bind_some hF
 refine dN (v':=(.d (.ptr [.str y_5.Key,.str y_5.Item,.int .i64 y_5.Version,.int .i64 y_5.First,.int .i64 y_5.Last,.int .i64 y_5.Every,.int .i64 y_5.Days,dl eI y_5.Except,.int .i64 y_5.From,.int .i64 y_5.To,.int .i64 y_5.Prio,dl eS y_5.Tags,.bool y_5.Gone]))) 6 rfl (uX (enc:=Entry.enc) (y:=y_5) hy_6) (ae (.d (.ptr [.str y_5.Key,.str y_5.Item,.int .i64 y_5.Version,.int .i64 y_5.First,.int .i64 y_5.Last,.int .i64 y_5.Every,.int .i64 y_5.Days,dl eI y_5.Except,.int .i64 y_5.From,.int .i64 y_5.To,.int .i64 y_5.Prio,dl eS y_5.Tags,.bool y_5.Gone])) wz rfl (jg DU rfl [.int .i64 y_5.Prio,dl eS y_5.Tags,.bool y_5.Gone] rfl rfl wz (bG sz3 ag3 rfl (vI y_5.Prio) rfl wz (aI xA rfl 0 rfl wz (aA 6 0 (.inr (by kernel_rfl)) (fun _ _ ag=>⟨.inl ⟨rfl,rfl⟩,trivial⟩) Fh E8 rfl rfl (.d (dP Entry.enc a_1.f_e)) rfl wz ?_)))))
 obtain ⟨y_7,hy_8,hF⟩:=bind_some hF
 refine dN (v':=(.d (.ptr [.str y_7.Key,.str y_7.Item,.int .i64 y_7.Version,.int .i64 y_7.First,.int .i64 y_7.Last,.int .i64 y_7.Every,.int .i64 y_7.Days,dl eI y_7.Except,.int .i64 y_7.From,.int .i64 y_7.To,.int .i64 y_7.Prio,dl eS y_7.Tags,.bool y_7.Gone]))) 11 rfl (uX (enc:=Entry.enc) (y:=y_7) hy_8) (ae (.d (.ptr [.str y_7.Key,.str y_7.Item,.int .i64 y_7.Version,.int .i64 y_7.First,.int .i64 y_7.Last,.int .i64 y_7.Every,.int .i64 y_7.Days,dl eI y_7.Except,.int .i64 y_7.From,.int .i64 y_7.To,.int .i64 y_7.Prio,dl eS y_7.Tags,.bool y_7.Gone])) wz rfl (jg DU rfl [.int .i64 y_7.Prio,dl eS y_7.Tags,.bool y_7.Gone] rfl rfl wz (bG sz3 ag3 rfl (vI y_7.Prio) rfl wz ?_)))
 obtain ⟨r_9,hr_10,hF⟩:=bind_some hF
 refine aG (iX hr_10) rfl G8 rfl rfl rfl rfl wz (aI uL rfl 1 rfl wz (aI gq rfl 1 rfl wz (aA 13 1 (.inr (by kernel_rfl)) (fun _ _ ag=>⟨.inl ⟨rfl,rfl⟩,⟨.inl ⟨rfl,rfl⟩,trivial⟩⟩) sz3 ag3 rfl rfl (vI b_2.f_time.From) rfl wz (aI uL rfl 1 rfl wz (aI gq rfl 1 rfl wz (aA 16 0 (.inr (by kernel_rfl)) (fun _ _ ag=>⟨.inl ⟨rfl,rfl⟩,⟨.inl ⟨rfl,rfl⟩,⟨.inl ⟨rfl,rfl⟩,trivial⟩⟩⟩) sz3 ag3 rfl rfl (vI a_1.f_time.From) rfl wz ?_))))))
 obtain ⟨r_11,hr_12,hF⟩:=bind_some hF
 refine aG (iX hr_12) rfl G8 rfl rfl rfl rfl wz (aI xA rfl 0 rfl wz (aA 19 1 (.inr (by kernel_rfl)) (fun _ _ ag=>⟨.inl ⟨rfl,rfl⟩,⟨.inl ⟨rfl,rfl⟩,⟨.inl ⟨rfl,rfl⟩,⟨.inl ⟨rfl,rfl⟩,trivial⟩⟩⟩⟩) Fh E8 rfl rfl (.d (dP Entry.enc b_2.f_e)) rfl wz ?_))
 obtain ⟨y_13,hy_14,hF⟩:=bind_some hF
 refine dN (v':=(.d (.ptr [.str y_13.Key,.str y_13.Item,.int .i64 y_13.Version,.int .i64 y_13.First,.int .i64 y_13.Last,.int .i64 y_13.Every,.int .i64 y_13.Days,dl eI y_13.Except,.int .i64 y_13.From,.int .i64 y_13.To,.int .i64 y_13.Prio,dl eS y_13.Tags,.bool y_13.Gone]))) 24 rfl (uX (enc:=Entry.enc) (y:=y_13) hy_14) (ae (.d (.ptr [.str y_13.Key,.str y_13.Item,.int .i64 y_13.Version,.int .i64 y_13.First,.int .i64 y_13.Last,.int .i64 y_13.Every,.int .i64 y_13.Days,dl eI y_13.Except,.int .i64 y_13.From,.int .i64 y_13.To,.int .i64 y_13.Prio,dl eS y_13.Tags,.bool y_13.Gone])) wz rfl (jg rZ rfl [.str y_13.Key,.str y_13.Item,.int .i64 y_13.Version,.int .i64 y_13.First,.int .i64 y_13.Last,.int .i64 y_13.Every,.int .i64 y_13.Days,dl eI y_13.Except,.int .i64 y_13.From,.int .i64 y_13.To,.int .i64 y_13.Prio,dl eS y_13.Tags,.bool y_13.Gone] rfl rfl wz (bG sz9 ag9 rfl (vS y_13.Key) rfl wz (aI xA rfl 0 rfl wz (aA 24 0 (.inr (by kernel_rfl)) (fun _ _ ag=>⟨.inl ⟨rfl,rfl⟩,⟨.inl ⟨rfl,rfl⟩,⟨.inl ⟨rfl,rfl⟩,⟨.inl ⟨rfl,rfl⟩,⟨.inl ⟨rfl,rfl⟩,trivial⟩⟩⟩⟩⟩) Fh E8 rfl rfl (.d (dP Entry.enc a_1.f_e)) rfl wz ?_)))))
 obtain ⟨y_15,hy_16,hF⟩:=bind_some hF
 refine dN (v':=(.d (.ptr [.str y_15.Key,.str y_15.Item,.int .i64 y_15.Version,.int .i64 y_15.First,.int .i64 y_15.Last,.int .i64 y_15.Every,.int .i64 y_15.Days,dl eI y_15.Except,.int .i64 y_15.From,.int .i64 y_15.To,.int .i64 y_15.Prio,dl eS y_15.Tags,.bool y_15.Gone]))) 29 rfl (uX (enc:=Entry.enc) (y:=y_15) hy_16) (ae (.d (.ptr [.str y_15.Key,.str y_15.Item,.int .i64 y_15.Version,.int .i64 y_15.First,.int .i64 y_15.Last,.int .i64 y_15.Every,.int .i64 y_15.Days,dl eI y_15.Except,.int .i64 y_15.From,.int .i64 y_15.To,.int .i64 y_15.Prio,dl eS y_15.Tags,.bool y_15.Gone])) wz rfl (jg rZ rfl [.str y_15.Key,.str y_15.Item,.int .i64 y_15.Version,.int .i64 y_15.First,.int .i64 y_15.Last,.int .i64 y_15.Every,.int .i64 y_15.Days,dl eI y_15.Except,.int .i64 y_15.From,.int .i64 y_15.To,.int .i64 y_15.Prio,dl eS y_15.Tags,.bool y_15.Gone] rfl rfl wz (bG sz9 ag9 rfl (vS y_15.Key) rfl wz ?_)))
 obtain ⟨r_17,hr_18,hF⟩:=bind_some hF
 refine aG (nu hr_18) rfl Mw rfl rfl rfl rfl wz (eG (([r_9,r_11,r_17]:List Int).map eI) kE wo rfl rfl rfl rfl rfl wz ?_)
 obtain ⟨r_19,hr_20,hF⟩:=bind_some hF
 refine aG (sV hr_20) rfl L8 rfl rfl rfl rfl wz (ae (vI r_19) wz rfl (ak (aL (H0:=([(n_3,some (.cells 3 [(.d (dP Entry.enc a_1.f_e)),(vI a_1.f_time.From),(vI a_1.f_time.To)])),(n_4,some (.cells 3 [(.d (dP Entry.enc b_2.f_e)),(vI b_2.f_time.From),(vI b_2.f_time.To)]))]:Hp)) ([(4,(vI r_19))]:List (Nat×V)) (by kernel_rfl) (tq (by kernel_rfl)) ?_)))
 obtain rfl:=ah hF
 exact aC (aO (.inr rfl) [(vI r_19)] ⟨rfl,trivial⟩ rfl rfl rfl)
theorem ji {x_1:(List Span)} {r:Span} (hF:aZ x_1=some r) :
  FnM Tryz.prog 176 [(dV (ax 0) 3 x_1),(.fn 177 [])] (([]:List Box)++gI 3 Span.enc x_1) (.d (.agg (Span.enc r))) (([]:List Box).map some++gT x_1 (gB 3 Span.enc x_1)):=by
 refine FnM.of_wHv ⟨Tryz.prog,33,[],[]⟩ rfl Tryz.func176 rfl rfl (Nat.le_of_ble_eq_true rfl) (by kernel_rfl) ?_
 unfold aZ at hF
 refine af (aa (dm 0 (.inl rfl) F4 rfl wz (fun n_3=>ak (af (af (aa (ae (dV (ax 0) 3 x_1) wz rfl (Ay sG rfl wz (ae (vB (decide ((x_1.length:Int) < 1))) wz rfl (ak ?_))))))))))
 obtain ⟨v_4,h_5,hF⟩:=bind_some hF
 refine aH (β:=Unit) (fun _=>([(0,(dV (ax 0) 3 x_1)),(1,(.fn 177 [])),(4,(.ref n_3 0 0))]:List (Nat×V))) (fun _=>([((ax 0),gB 3 Span.enc x_1),(n_3,some (.cells 3 [(.d .nilp),(vI 0),(vI 0)]))]:Hp)) (fun _=>True) ?_ ?_
 ·rcases au h_5 with⟨hc_6,h_5⟩ | ⟨hc_6,h_5⟩
  ·refine aB rfl hc_6 (aa ?_)
   cases h_5
  ·refine ay rfl hc_6 (av ?_)
   obtain rfl:=ah h_5
   exact cu
 ·rintro ⟨⟩ _ sl_ H_ hp_ hq_
  refine aL _ hp_ hq_ (af (aa (ae (dV (ax 0) 3 x_1) wz rfl ?_)))
  obtain ⟨_,hi_7,hF⟩:=bind_some hF
  refine lw mO rfl rfl (jf hi_7) (gu hi_7) wz ?_
  obtain ⟨e_8,hy_9,hF⟩:=bind_some hF
  refine kC 0 0 il ft iO oD rfl rfl hy_9 (.d (.agg (Span.enc e_8))) rfl wz (dm 0 (.inl rfl) F4 rfl wz (fun n_10=>eY 0 il ft 2 iO rfl rfl [(.d (dP Entry.enc e_8.f_e)),(vI e_8.f_time.From),(vI e_8.f_time.To)] (xC rfl (bC (kz _ _) (bC rfl (bC rfl rfl))) rfl rfl) wz (ak (af (af (aa (ae (vI 1) wz rfl (ak ?_))))))))
  obtain ⟨o_19,hj_20,hF⟩:=bind_some hF
  obtain ⟨nq_33,hj_20⟩:=cK hj_20
  refine aH (β:=(Int×(Option Entry)×Int×Int)) (fun (s_16:Int×(Option Entry)×Int×Int)=>([(4,(.ref n_3 0 0)),(5,(.ref n_10 0 0))]:List (Nat×V))) (fun (s_16:Int×(Option Entry)×Int×Int)=>([((ax 0),gB 3 Span.enc x_1),(n_3,some (.cells 3 [(.d .nilp),(vI 0),(vI 0)])),(n_10,some (.cells 3 [(.d (dP Entry.enc s_16.2.1)),(vI s_16.2.2.1),(vI s_16.2.2.2)]))]:Hp)) (fun p=>o_19 = .go p) ?_ ?_
  ·refine aF (aV (β:=Nat×(Int×(Option Entry)×Int×Int)) (fun p=>(fun (k_11:Nat) (s_16:Int×(Option Entry)×Int×Int)=>([(0,(dV (ax 0) 3 x_1)),(1,(.fn 177 [])),(4,(.ref n_3 0 0)),(5,(.ref n_10 0 0)),(6,(vI s_16.1))]:List (Nat×V))) p.1 p.2) (fun p=>(fun (k_11:Nat) (s_16:Int×(Option Entry)×Int×Int)=>([((ax 0),gB 3 Span.enc x_1),(n_3,some (.cells 3 [(.d .nilp),(vI 0),(vI 0)])),(n_10,some (.cells 3 [(.d (dP Entry.enc s_16.2.1)),(vI s_16.2.2.1),(vI s_16.2.2.2)]))]:Hp)) p.1 p.2) (fun p=>iterN (fun s=>aX x_1 s) p.1 p.2=some o_19) (fun p=>p.1) (nq_33,(1,e_8.f_e,e_8.f_time.From,e_8.f_time.To)) hj_20 rfl (aJ rfl) ?_)
   rintro ⟨k_11,s_16⟩ hL_18
   dsimp only at hL_18
   cases k_11 with
   | zero=>cases hL_18
   | succ k_11 =>
    obtain ⟨c_,hc_17,hL_18⟩:=bind_some hL_18
    unfold aX at hc_17
    refine af (af (aa (ae (vI s_16.1) wz rfl (ae (dV (ax 0) 3 x_1) wz rfl (Ay sG rfl wz (ae (vB (decide (s_16.1 < (x_1.length:Int)))) wz rfl (ak ?_)))))))
    rcases au hc_17 with⟨hc_21,hc_17⟩ | ⟨hc_21,hc_17⟩
    ·refine aB rfl hc_21 (av (af (aF (af (bn (ae (.fn 177 []) wz rfl (ae (dV (ax 0) 3 x_1) wz rfl (ae (vI s_16.1) wz rfl ?_))))))))
     obtain ⟨_,hi_22,hc_17⟩:=bind_some hc_17
     refine lw mO rfl rfl (jf hi_22) (gu hi_22) wz ?_
     obtain ⟨e_23,hy_24,hc_17⟩:=bind_some hc_17
     refine kC 4 0 (.inr (by kernel_rfl)) (fun _ _ ag=>trivial) iO oD rfl rfl hy_24 (.d (.agg (Span.enc e_23))) rfl wz (aA 5 2 (.inr (by kernel_rfl)) (fun _ _ ag=>⟨.inl ⟨rfl,rfl⟩,trivial⟩) iO oD rfl rfl (.d (.agg (Span.enc (⟨s_16.2.1,(⟨s_16.2.2.1,s_16.2.2.2⟩:Window)⟩:Span)))) rfl wz ?_)
     obtain ⟨r_25,hr_26,hc_17⟩:=bind_some hc_17
     refine aG (qB hr_26) rfl hb177 rfl rfl rfl rfl wz (ae (vB (decide (r_25 < 0))) wz rfl (ak ?_))
     obtain ⟨v_27,h_28,hc_17⟩:=bind_some hc_17
     refine aH (β:=Unit) (fun _=>([(0,(dV (ax 0) 3 x_1)),(1,(.fn 177 [])),(4,(.ref n_3 0 0)),(5,(.ref n_10 0 0)),(6,(vI s_16.1))]:List (Nat×V))) (fun _=>([((ax 0),gB 3 Span.enc x_1),(n_3,some (.cells 3 [(.d .nilp),(vI 0),(vI 0)])),(n_10,some (.cells 3 [(.d (dP Entry.enc v_27.1)),(vI v_27.2.1),(vI v_27.2.2)]))]:Hp)) (fun _=>True) ?_ ?_
     ·rcases au h_28 with⟨hc_29,h_28⟩ | ⟨hc_29,h_28⟩
      ·refine aB rfl hc_29 (aa (ae (dV (ax 0) 3 x_1) wz rfl (ae (vI s_16.1) wz rfl ?_)))
       obtain ⟨_,hi_30,h_28⟩:=bind_some h_28
       refine lw mO rfl rfl (jf hi_30) (gu hi_30) wz ?_
       obtain ⟨e_31,hy_32,h_28⟩:=bind_some h_28
       refine kC 0 0 il ft iO oD rfl rfl hy_32 (.d (.agg (Span.enc e_31))) rfl wz (eY 0 il ft 2 iO rfl rfl [(.d (dP Entry.enc e_31.f_e)),(vI e_31.f_time.From),(vI e_31.f_time.To)] (xC rfl (bC (kz _ _) (bC rfl (bC rfl rfl))) rfl rfl) wz (ak ?_))
       obtain rfl:=ah h_28
       exact cu
      ·refine ay rfl hc_29 (av ?_)
       obtain rfl:=ah h_28
       exact cu
     ·rintro ⟨⟩ _ sl_ H_ hp_ hq_
      refine aL _ hp_ hq_ (aa (ae (vI s_16.1) wz rfl (ae (vI (w64 (s_16.1 + 1))) wz rfl (ae (vI (w64 (s_16.1 + 1))) wz rfl (ak ?_)))))
      obtain rfl:=ah hc_17
      exact aP (k_11,((w64 (s_16.1 + 1)),v_27.1,v_27.2.1,v_27.2.2)) hL_18 (Nat.lt_succ_self _) rfl (aJ rfl)
    ·refine ay rfl hc_21 (aQ ?_)
     obtain rfl:=ah hc_17
     obtain rfl:=ah hL_18
     exact aR ((s_16.1,s_16.2.1,s_16.2.2.1,s_16.2.2.2)) rfl rfl (aJ rfl)
  ·rintro s_16 ho_ sl_ H_ hp_ hq_
   subst ho_
   refine aL _ hp_ hq_ (af (aa (aA 0 2 il ft iO oD rfl rfl (.d (.agg (Span.enc (⟨s_16.2.1,(⟨s_16.2.2.1,s_16.2.2.2⟩:Window)⟩:Span)))) rfl wz (eY 0 il ft 1 iO rfl rfl [(.d (dP Entry.enc s_16.2.1)),(vI s_16.2.2.1),(vI s_16.2.2.2)] (xC rfl (bC (kz _ _) (bC rfl (bC rfl rfl))) rfl rfl) wz (ak ?_)))))
   obtain rfl:=ah hF
   exact aC (BR (bs:=([]:List Box)) (os:=([]:List Box)) (xs:=x_1) (o:=gB 3 Span.enc x_1) (.inr rfl) [(.d (.agg (Span.enc (⟨s_16.2.1,(⟨s_16.2.2.1,s_16.2.2.2⟩:Window)⟩:Span))))] ⟨⟨1,_,_,_,_,_,_,_,rfl,rfl,iO,oD,rfl⟩,trivial⟩ rfl rfl rfl rfl rfl (by kernel_rfl) oo rfl)
theorem xW {l_1:(List Entry)} {p_2:Player} {wv_3:Window} {r:(List Slot_)} (hF:jO l_1 p_2 wv_3=some r) :
  FnM Tryz.prog 94 [(vL Entry.enc l_1),(.d (.agg (Player.enc p_2))),(.d (.agg (Window.enc wv_3)))] [] (vL Slot_.enc r) []:=by
 refine FnM.of_wH ⟨Tryz.prog,111,[],[]⟩ rfl Tryz.func94 rfl rfl (Nat.le_of_ble_eq_true rfl) (by kernel_rfl) ?_
 unfold jO at hF
 refine af (aa (dR 0 (.inl rfl) [(vS p_2.Key),(vS p_2.Screen),(vI p_2.Zone),(vL eS p_2.Tags)] rfl rfl wz (fun n_4=>dR 0 (.inl rfl) [(vI wv_3.From),(vI wv_3.To)] rfl rfl wz (fun n_5=>ae .nil wz rfl (ak (af (aa (ae (vL Entry.enc l_1) wz rfl (aA 0 0 il ft tN vX rfl rfl (.d (.agg (Player.enc p_2))) rfl wz (aA 0 1 il ft kW qd rfl rfl (.d (.agg (Window.enc wv_3))) rfl wz ?_))))))))))
 obtain ⟨r_6,hr_7,hF⟩:=bind_some hF
 refine Gq [] (rD hr_7) rfl M3 rfl (by kernel_rfl) (by kernel_rfl) (by kernel_rfl) (by kernel_rfl) (by kernel_rfl) rfl (by decide) (by kernel_rfl) wz ([(n_4,some (.cells 4 [(vS p_2.Key),(vS p_2.Screen),(vI p_2.Zone),(vL eS p_2.Tags)])),(n_5,some (.cells 2 [(vI wv_3.From),(vI wv_3.To)]))]:Hp) (fun _=>by kernel_rfl) (fun n_9=>ae (gV n_9 3 r_6) wz rfl (ak (af (aa (ae (gV n_9 3 r_6) wz rfl ?_)))))
 obtain ⟨r_10,hr_11,hF⟩:=bind_some hF
 obtain ⟨_,hs_12,hF⟩:=bind_some hF
 replace hs_12:=nQ hs_12
 refine mW 0 [] 2 0 il ft (mr hr_11) rfl hb171 rfl rfl rfl (by kernel_rfl) rfl (.inl rfl) rfl (by kernel_rfl) (by kernel_rfl) (by kernel_rfl) (by kernel_rfl) rfl (by decide) (by kernel_rfl) oo (yw hs_12) wz ([(n_4,some (.cells 4 [(vS p_2.Key),(vS p_2.Screen),(vI p_2.Zone),(vL eS p_2.Tags)])),(n_5,some (.cells 2 [(vI wv_3.From),(vI wv_3.To)])),(n_9,gB 3 Span.enc r_10)]:Hp) (by kernel_rfl) (dN (v':=(gV n_9 3 r_10)) 18 rfl (jW hs_12.symm) (dN (v':=(gV n_9 3 r_10)) 19 rfl (jW hs_12.symm) (dN (v':=(gV n_9 3 r_10)) 7 rfl (jW hs_12.symm) (ak (af (aa (ae (vL Entry.enc l_1) wz rfl (aA 0 0 il ft tN vX rfl rfl (.d (.agg (Player.enc p_2))) rfl wz (aA 0 1 il ft kW qd rfl rfl (.d (.agg (Window.enc wv_3))) rfl wz ?_)))))))))
 obtain ⟨r_13,hr_14,hF⟩:=bind_some hF
 refine aG (zM hr_14) rfl hb173 rfl rfl rfl rfl wz (dm 0 (.inl rfl) z22 rfl wz (fun n_15=>eY 0 il ft 3 yK rfl rfl [(vL eI r_13)] rfl wz (ak (af (aa (ae .nil wz rfl (ak (af (aa (ae .nil wz rfl (ak (af (aa (ae (vI 0) wz rfl (ak (af (af (aa (dm 0 (.inl rfl) z3 rfl wz (fun n_16=>eY 0 il ft 4 sz3 rfl rfl [(vI 0)] rfl wz (ak (lT (fun n_23=>lT (fun n_24 => ?_))))))))))))))))))))))))
 obtain ⟨o_35,hj_36,hF⟩:=bind_some hF
 obtain ⟨nq_101,hj_36⟩:=cK hj_36
 refine aH (β:=((List Slot_)×(List Span)×Int×Int)×Nm×Nm×Nm×Bool) (fun p=>(fun (s_22:(List Slot_)×(List Span)×Int×Int) (n_29:Nm) (n_30:Nm) (n_31:Nm) (gb_32:Bool)=>([(9,(gV n_30 3 s_22.1))]:List (Nat×V))) p.1 p.2.1 p.2.2.1 p.2.2.2.1 p.2.2.2.2) (fun p=>(fun (s_22:(List Slot_)×(List Span)×Int×Int) (n_29:Nm) (n_30:Nm) (n_31:Nm) (gb_32:Bool)=>([(n_4,some (.cells 4 [(vS p_2.Key),(vS p_2.Screen),(vI p_2.Zone),(vL eS p_2.Tags)])),(n_5,some (.cells 2 [(vI wv_3.From),(vI wv_3.To)])),(n_9,gB 3 Span.enc r_10),(n_15,some (.cells 1 [(vL eI r_13)])),(n_29,some (.cells 1 [(vI s_22.2.2.2)])),(n_30,gB 3 Slot_.enc s_22.1),(n_31,kB gb_32 3 Span.enc s_22.2.1)]:Hp)) p.1 p.2.1 p.2.2.1 p.2.2.2.1 p.2.2.2.2) (fun p=>o_35 = .go p.1) ?_ ?_
 ·refine aF (aV (β:=Nat×((List Slot_)×(List Span)×Int×Int)×Nm×Nm×Nm×Bool) (fun p=>(fun (k_17:Nat) (s_22:(List Slot_)×(List Span)×Int×Int) (n_29:Nm) (n_30:Nm) (n_31:Nm) (gb_32:Bool)=>([(7,(gV n_9 3 r_10)),(8,(.ref n_15 0 0)),(9,(gV n_30 3 s_22.1)),(10,(kV gb_32 n_31 3 s_22.2.1)),(11,(vI s_22.2.2.1)),(12,(.ref n_29 0 0))]:List (Nat×V))) p.1 p.2.1 p.2.2.1 p.2.2.2.1 p.2.2.2.2.1 p.2.2.2.2.2) (fun p=>(fun (k_17:Nat) (s_22:(List Slot_)×(List Span)×Int×Int) (n_29:Nm) (n_30:Nm) (n_31:Nm) (gb_32:Bool)=>([(n_4,some (.cells 4 [(vS p_2.Key),(vS p_2.Screen),(vI p_2.Zone),(vL eS p_2.Tags)])),(n_5,some (.cells 2 [(vI wv_3.From),(vI wv_3.To)])),(n_9,gB 3 Span.enc r_10),(n_15,some (.cells 1 [(vL eI r_13)])),(n_29,some (.cells 1 [(vI s_22.2.2.2)])),(n_30,gB 3 Slot_.enc s_22.1),(n_31,kB gb_32 3 Span.enc s_22.2.1)]:Hp)) p.1 p.2.1 p.2.2.1 p.2.2.2.1 p.2.2.2.2.1 p.2.2.2.2.2) (fun p=>iterN (fun s=>fE r_13 r_10 s) p.1 p.2.1=some o_35) (fun p=>p.1) (nq_101,(([]:List Slot_),([]:List Span),0,0),n_16,n_23,n_24,false) hj_36 rfl (aJ rfl) ?_)
  rintro ⟨k_17,s_22,n_29,n_30,n_31,gb_32⟩ hL_34
  dsimp only at hL_34
  cases k_17 with
  | zero=>cases hL_34
  | succ k_17 =>
   obtain ⟨c_,hc_33,hL_34⟩:=bind_some hL_34
   unfold fE at hc_33
   refine af (af (aa (aA 0 4 il ft sz3 ag3 rfl rfl (vI s_22.2.2.2) rfl wz (ae (vI (w64 (s_22.2.2.2 + 1))) wz rfl (aA 0 3 il ft yK Au rfl rfl (vL eI r_13) rfl wz (cz wy rfl wz (ae (vB (decide ((w64 (s_22.2.2.2 + 1)) < (r_13.length:Int)))) wz rfl (ak ?_))))))))
   rcases au hc_33 with⟨hc_37,hc_33⟩ | ⟨hc_37,hc_33⟩
   ·refine aB rfl hc_37 (av (af (aF (af ?_))))
    obtain ⟨o_48,hj_49,hc_33⟩:=bind_some hc_33
    obtain ⟨nq_100,hj_49⟩:=cK hj_49
    refine aH (β:=((List Span)×Int)×Nm) (fun p=>(fun (s_43:(List Span)×Int) (n_45:Nm)=>([(7,(gV n_9 3 r_10)),(8,(.ref n_15 0 0)),(9,(gV n_30 3 s_22.1)),(10,(kV gb_32 n_45 3 s_43.1)),(11,(vI s_43.2)),(12,(.ref n_29 0 0))]:List (Nat×V))) p.1 p.2) (fun p=>(fun (s_43:(List Span)×Int) (n_45:Nm)=>([(n_4,some (.cells 4 [(vS p_2.Key),(vS p_2.Screen),(vI p_2.Zone),(vL eS p_2.Tags)])),(n_5,some (.cells 2 [(vI wv_3.From),(vI wv_3.To)])),(n_9,gB 3 Span.enc r_10),(n_15,some (.cells 1 [(vL eI r_13)])),(n_29,some (.cells 1 [(vI s_22.2.2.2)])),(n_30,gB 3 Slot_.enc s_22.1),(n_45,kB gb_32 3 Span.enc s_43.1)]:Hp)) p.1 p.2) (fun p=>o_48 = .go p.1) ?_ ?_
    ·refine aF (aV (β:=Nat×((List Span)×Int)×Nm) (fun p=>(fun (k_38:Nat) (s_43:(List Span)×Int) (n_45:Nm)=>([(7,(gV n_9 3 r_10)),(8,(.ref n_15 0 0)),(9,(gV n_30 3 s_22.1)),(10,(kV gb_32 n_45 3 s_43.1)),(11,(vI s_43.2)),(12,(.ref n_29 0 0))]:List (Nat×V))) p.1 p.2.1 p.2.2) (fun p=>(fun (k_38:Nat) (s_43:(List Span)×Int) (n_45:Nm)=>([(n_4,some (.cells 4 [(vS p_2.Key),(vS p_2.Screen),(vI p_2.Zone),(vL eS p_2.Tags)])),(n_5,some (.cells 2 [(vI wv_3.From),(vI wv_3.To)])),(n_9,gB 3 Span.enc r_10),(n_15,some (.cells 1 [(vL eI r_13)])),(n_29,some (.cells 1 [(vI s_22.2.2.2)])),(n_30,gB 3 Slot_.enc s_22.1),(n_45,kB gb_32 3 Span.enc s_43.1)]:Hp)) p.1 p.2.1 p.2.2) (fun p=>iterN (fun s=>fC r_10 r_13 s_22 s) p.1 p.2.1=some o_48) (fun p=>p.1) (nq_100,(s_22.2.1,s_22.2.2.1),n_31) hj_49 rfl (aJ rfl) ?_)
     rintro ⟨k_38,s_43,n_45⟩ hL_47
     dsimp only at hL_47
     cases k_38 with
     | zero=>cases hL_47
     | succ k_38 =>
      obtain ⟨c_,hc_46,hL_47⟩:=bind_some hL_47
      unfold fC at hc_46
      refine af (af ?_)
      obtain ⟨v_50,h_51,hc_46⟩:=bind_some hc_46
      refine aH (β:=Unit) (fun _=>([(7,(gV n_9 3 r_10)),(8,(.ref n_15 0 0)),(9,(gV n_30 3 s_22.1)),(10,(kV gb_32 n_45 3 s_43.1)),(11,(vI s_43.2)),(12,(.ref n_29 0 0)),(48,(vB v_50))]:List (Nat×V))) (fun _=>([(n_4,some (.cells 4 [(vS p_2.Key),(vS p_2.Screen),(vI p_2.Zone),(vL eS p_2.Tags)])),(n_5,some (.cells 2 [(vI wv_3.From),(vI wv_3.To)])),(n_9,gB 3 Span.enc r_10),(n_15,some (.cells 1 [(vL eI r_13)])),(n_29,some (.cells 1 [(vI s_22.2.2.2)])),(n_30,gB 3 Slot_.enc s_22.1),(n_45,kB gb_32 3 Span.enc s_43.1)]:Hp)) (fun _=>True) ?_ ?_
      ·refine bn (ae (vI s_43.2) wz rfl (ae (gV n_9 3 r_10) wz rfl (Ah sG rfl wz (ae (vB (decide (s_43.2 < (r_10.length:Int)))) wz rfl ?_))))
       rcases au h_51 with⟨hc_52,h_51⟩ | ⟨hc_52,h_51⟩
       ·refine aD rfl hc_52 wz (ae (gV n_9 3 r_10) wa rfl (ae (vI s_43.2) wa rfl ?_))
        obtain ⟨_,hi_53,h_51⟩:=bind_some h_51
        refine vw mO rfl rfl (jf hi_53) (gu hi_53) wa (aI uL rfl 1 rfl wa (aI gq rfl 1 rfl wa ?_))
        obtain ⟨e_54,hy_55,h_51⟩:=bind_some h_51
        refine kC 10 2 (.inr (by kernel_rfl)) (fun _ _ ag=>trivial) sz3 ag3 rfl rfl hy_55 (vI e_54.f_time.From) rfl wa (aA 11 3 (.inr (by kernel_rfl)) (fun _ _ ag=>⟨.inl ⟨rfl,rfl⟩,trivial⟩) yK Au rfl rfl (vL eI r_13) rfl wa (aA 12 4 (.inr (by kernel_rfl)) (fun _ _ ag=>⟨.inl ⟨rfl,rfl⟩,⟨.inl ⟨rfl,rfl⟩,trivial⟩⟩) sz3 ag3 rfl rfl (vI s_22.2.2.2) rfl wa ?_))
        obtain ⟨y_56,hy_57,h_51⟩:=bind_some h_51
        refine dL kE rfl rfl hy_57 rfl wa (bG sz3 ag3 rfl (vI y_56) rfl wa (ae (vB (decide (e_54.f_time.From≤y_56))) wa rfl (ae (vB (decide (e_54.f_time.From≤y_56))) wz rfl (ak ?_))))
        obtain rfl:=ah h_51
        exact cu
       ·refine aD rfl hc_52 wz (aj wa (aj wa (aj wa (aj wa (aj wa (aj wa (aj wa (aj wa (aj wa (aj wa (aj wa (ae (vB false) wz rfl (ak ?_)))))))))))))
        obtain rfl:=ah h_51
        exact cu
      ·rintro ⟨⟩ _ sl_ H_ hp_ hq_
       refine aL _ hp_ hq_ ?_
       rcases au hc_46 with⟨hc_58,hc_46⟩ | ⟨hc_58,hc_46⟩
       ·refine aB rfl hc_58 (av (af (aF (aa (ae (kV gb_32 n_45 3 s_43.1) wz rfl (ae (gV n_9 3 r_10) wz rfl (ae (vI s_43.2) wz rfl ?_)))))))
        obtain ⟨_,hi_59,hc_46⟩:=bind_some hc_46
        refine vw mO rfl rfl (jf hi_59) (gu hi_59) wz ?_
        obtain ⟨e_60,hy_61,hc_46⟩:=bind_some hc_46
        refine kC 0 2 il ft iO oD rfl rfl hy_61 (.d (.agg (Span.enc e_60))) rfl wz (eG (([e_60]:List Span).map Span.enc) mO MH rfl (M7 rfl rfl (bC (kz _ _) (bC rfl (bC rfl rfl))) rfl) rfl rfl rfl wz ?_)
        obtain ⟨a_62,hz_63,hc_46⟩:=bind_some hc_46
        refine Nc 0 il ft (i:=6) Dv Dv iO F4 rfl (by decide) ME (by decide) (fun _=>rfl) rfl rfl rfl hz_63 wz (fun n_64=>ae (kV gb_32 n_64 3 a_62) wz rfl (ak (aa (ae (vI s_43.2) wz rfl (ae (vI (w64 (s_43.2 + 1))) wz rfl (ae (vI (w64 (s_43.2 + 1))) wz rfl (ak ?_)))))))
        obtain rfl:=ah hc_46
        exact aP (k_38,(a_62,(w64 (s_43.2 + 1))),n_64) hL_47 (Nat.lt_succ_self _) rfl (aJ rfl)
       ·refine ay rfl hc_58 (aQ ?_)
        obtain rfl:=ah hc_46
        obtain rfl:=ah hL_47
        exact aR ((s_43.1,s_43.2),n_45) rfl rfl (aJ rfl)
    ·rintro ⟨s_43,n_45⟩ ho_ sl_ H_ hp_ hq_
     subst ho_
     refine aL _ hp_ hq_ (af (aa (ae (kV gb_32 n_45 3 s_43.1) wz rfl (ae (.fn 175 [(.ref n_15 0 0),(.ref n_29 0 0)]) wz rfl ?_))))
     obtain ⟨r_65,hr_66,hc_33⟩:=bind_some hc_33
     obtain ⟨_,hl_68,hc_33⟩:=bind_some hc_33
     obtain ⟨_,hr_67,hc_33⟩:=bind_some hc_33
     replace hl_68:=leL_le hl_68
     refine KW [3,4] 6 0 (iT hr_66) (iU hr_67) hl_68 rfl hb174 rfl rfl rfl (by kernel_rfl) rfl rfl (by kernel_rfl) (by kernel_rfl) (by kernel_rfl) (by kernel_rfl) rfl (by decide) wz ([(n_4,some (.cells 4 [(vS p_2.Key),(vS p_2.Screen),(vI p_2.Zone),(vL eS p_2.Tags)])),(n_5,some (.cells 2 [(vI wv_3.From),(vI wv_3.To)])),(n_9,gB 3 Span.enc r_10),(n_15,some (.cells 1 [(vL eI r_13)])),(n_29,some (.cells 1 [(vI s_22.2.2.2)])),(n_30,gB 3 Slot_.enc s_22.1),(n_45,kB (gb_32 || !s_43.1.isEmpty) 3 Span.enc r_65)]:Hp) (by kernel_rfl) (ae (kV (gb_32 || !s_43.1.isEmpty) n_45 3 r_65) wz rfl (ak (af (aa (ae (vS (⟨#[]⟩:ByteArray)) wz rfl (ak (af (af (aa (ae (kV (gb_32 || !s_43.1.isEmpty) n_45 3 r_65) wz rfl (h_lenk sG rfl wz (ae (vB (decide ((r_65.length:Int) > 0))) wz rfl (ak ?_)))))))))))))
     obtain ⟨v_69,h_70,hc_33⟩:=bind_some hc_33
     refine aH (β:=Unit) (fun _=>([(7,(gV n_9 3 r_10)),(8,(.ref n_15 0 0)),(9,(gV n_30 3 s_22.1)),(10,(kV (gb_32 || !s_43.1.isEmpty) n_45 3 r_65)),(11,(vI s_43.2)),(12,(.ref n_29 0 0)),(13,(vS v_69))]:List (Nat×V))) (fun _=>([(n_4,some (.cells 4 [(vS p_2.Key),(vS p_2.Screen),(vI p_2.Zone),(vL eS p_2.Tags)])),(n_5,some (.cells 2 [(vI wv_3.From),(vI wv_3.To)])),(n_9,gB 3 Span.enc r_10),(n_15,some (.cells 1 [(vL eI r_13)])),(n_29,some (.cells 1 [(vI s_22.2.2.2)])),(n_30,gB 3 Slot_.enc s_22.1),(n_45,kB (gb_32 || !s_43.1.isEmpty) 3 Span.enc r_65)]:Hp)) (fun _=>True) ?_ ?_
     ·rcases au h_70 with⟨hc_71,h_70⟩ | ⟨hc_71,h_70⟩
      ·refine aB rfl hc_71 (aa (ae (kV (gb_32 || !s_43.1.isEmpty) n_45 3 r_65) wz rfl ?_))
       obtain ⟨_,hn_72,h_70⟩:=bind_some h_70
       replace hn_72:=Jr hn_72
       refine dN (v':=(gV n_45 3 r_65)) 10 rfl (BA hn_72) (dN (v':=(gV n_45 3 r_65)) 60 rfl (BA hn_72) (dN (v':=(gV n_45 3 r_65)) 61 rfl (BA hn_72) (dN (v':=(gV n_45 3 r_65)) 64 rfl (BA hn_72) (G5 6 rfl (kB_gB hn_72) ?_))))
       obtain ⟨r_73,hr_74,h_70⟩:=bind_some h_70
       refine mW 0 [] 6 0 il ft (ji hr_74) rfl hb176 rfl rfl rfl (by kernel_rfl) rfl (.inl rfl) rfl (by kernel_rfl) (by kernel_rfl) (by kernel_rfl) (by kernel_rfl) rfl (by decide) (by kernel_rfl) oo (yw rfl) wz ([(n_4,some (.cells 4 [(vS p_2.Key),(vS p_2.Screen),(vI p_2.Zone),(vL eS p_2.Tags)])),(n_5,some (.cells 2 [(vI wv_3.From),(vI wv_3.To)])),(n_9,gB 3 Span.enc r_10),(n_15,some (.cells 1 [(vL eI r_13)])),(n_29,some (.cells 1 [(vI s_22.2.2.2)])),(n_30,gB 3 Slot_.enc s_22.1),(n_45,gB 3 Span.enc r_65)]:Hp) (by kernel_rfl) (dN (v':=(kV (gb_32 || !s_43.1.isEmpty) n_45 3 r_65)) 10 rfl (BA hn_72).symm (dN (v':=(kV (gb_32 || !s_43.1.isEmpty) n_45 3 r_65)) 60 rfl (BA hn_72).symm (dN (v':=(kV (gb_32 || !s_43.1.isEmpty) n_45 3 r_65)) 61 rfl (BA hn_72).symm (dN (v':=(kV (gb_32 || !s_43.1.isEmpty) n_45 3 r_65)) 64 rfl (BA hn_72).symm (G5 (b':=kB (gb_32 || !s_43.1.isEmpty) 3 Span.enc r_65) 6 rfl (kB_gB hn_72).symm (h_field fr181_0 rfl (.d (dP Entry.enc r_73.f_e)) rfl wz ?_))))))
       obtain ⟨y_75,hy_76,h_70⟩:=bind_some h_70
       refine dN (v':=(.d (.ptr [.str y_75.Key,.str y_75.Item,.int .i64 y_75.Version,.int .i64 y_75.First,.int .i64 y_75.Last,.int .i64 y_75.Every,.int .i64 y_75.Days,dl eI y_75.Except,.int .i64 y_75.From,.int .i64 y_75.To,.int .i64 y_75.Prio,dl eS y_75.Tags,.bool y_75.Gone]))) 66 rfl (uX (enc:=Entry.enc) (y:=y_75) hy_76) (ae (.d (.ptr [.str y_75.Key,.str y_75.Item,.int .i64 y_75.Version,.int .i64 y_75.First,.int .i64 y_75.Last,.int .i64 y_75.Every,.int .i64 y_75.Days,dl eI y_75.Except,.int .i64 y_75.From,.int .i64 y_75.To,.int .i64 y_75.Prio,dl eS y_75.Tags,.bool y_75.Gone])) wz rfl (jg rZ rfl [.str y_75.Key,.str y_75.Item,.int .i64 y_75.Version,.int .i64 y_75.First,.int .i64 y_75.Last,.int .i64 y_75.Every,.int .i64 y_75.Days,dl eI y_75.Except,.int .i64 y_75.From,.int .i64 y_75.To,.int .i64 y_75.Prio,dl eS y_75.Tags,.bool y_75.Gone] rfl rfl wz (bG sz9 ag9 rfl (vS y_75.Key) rfl wz (ae (vS y_75.Key) wz rfl (ak ?_)))))
       obtain rfl:=ah h_70
       exact cu
      ·refine ay rfl hc_71 (av ?_)
       obtain rfl:=ah h_70
       exact cu
     ·rintro ⟨⟩ _ sl_ H_ hp_ hq_
      refine aL _ hp_ hq_ (af (aa (ae (gV n_30 3 s_22.1) wz rfl (Ah un67 rfl wz (ae (vI (w64 ((s_22.1.length:Int) - 1))) wz rfl (ae (vI (w64 ((s_22.1.length:Int) - 1))) wz rfl (ak (af ?_))))))))
      obtain ⟨v_77,h_78,hc_33⟩:=bind_some hc_33
      refine aH (β:=Unit) (fun _=>([(7,(gV n_9 3 r_10)),(8,(.ref n_15 0 0)),(9,(gV n_30 3 s_22.1)),(10,(kV (gb_32 || !s_43.1.isEmpty) n_45 3 r_65)),(11,(vI s_43.2)),(12,(.ref n_29 0 0)),(13,(vS v_69)),(14,(vI (w64 ((s_22.1.length:Int) - 1)))),(83,(vB v_77))]:List (Nat×V))) (fun _=>([(n_4,some (.cells 4 [(vS p_2.Key),(vS p_2.Screen),(vI p_2.Zone),(vL eS p_2.Tags)])),(n_5,some (.cells 2 [(vI wv_3.From),(vI wv_3.To)])),(n_9,gB 3 Span.enc r_10),(n_15,some (.cells 1 [(vL eI r_13)])),(n_29,some (.cells 1 [(vI s_22.2.2.2)])),(n_30,gB 3 Slot_.enc s_22.1),(n_45,kB (gb_32 || !s_43.1.isEmpty) 3 Span.enc r_65)]:Hp)) (fun _=>True) ?_ ?_
      ·refine aa (ae (vI (w64 ((s_22.1.length:Int) - 1))) wz rfl (ae (vB (decide ((w64 ((s_22.1.length:Int) - 1))≥0))) wz rfl ?_))
       rcases au h_78 with⟨hc_79,h_78⟩ | ⟨hc_79,h_78⟩
       ·refine aD rfl hc_79 wz (ae (gV n_30 3 s_22.1) wa rfl (ae (vI (w64 ((s_22.1.length:Int) - 1))) wa rfl ?_))
        obtain ⟨_,hi_80,h_78⟩:=bind_some h_78
        refine vw H6 rfl rfl (jf hi_80) (gu hi_80) wa (aI FW rfl 2 rfl wa ?_)
        obtain ⟨e_81,hy_82,h_78⟩:=bind_some h_78
        refine kC 0 5 il ft sz9 ag9 rfl rfl hy_82 (vS e_81.Entry) rfl wa (ae (vS v_69) wa rfl (ae (vB (sEq e_81.Entry v_69)) wa rfl (ae (vB (sEq e_81.Entry v_69)) wz rfl (ak ?_))))
        obtain rfl:=ah h_78
        exact cu
       ·refine aD rfl hc_79 wz (aj wa (aj wa (aj wa (aj wa (aj wa (aj wa (aj wa (ae (vB false) wz rfl (ak ?_)))))))))
        obtain rfl:=ah h_78
        exact cu
      ·rintro ⟨⟩ _ sl_ H_ hp_ hq_
       refine aL _ hp_ hq_ ?_
       obtain ⟨v_83,h_84,hc_33⟩:=bind_some hc_33
       refine aH (β:=Nm) (fun (n_85:Nm)=>([(7,(gV n_9 3 r_10)),(8,(.ref n_15 0 0)),(9,(gV n_85 3 v_83)),(10,(kV (gb_32 || !s_43.1.isEmpty) n_45 3 r_65)),(11,(vI s_43.2)),(12,(.ref n_29 0 0))]:List (Nat×V))) (fun (n_85:Nm)=>([(n_4,some (.cells 4 [(vS p_2.Key),(vS p_2.Screen),(vI p_2.Zone),(vL eS p_2.Tags)])),(n_5,some (.cells 2 [(vI wv_3.From),(vI wv_3.To)])),(n_9,gB 3 Span.enc r_10),(n_15,some (.cells 1 [(vL eI r_13)])),(n_29,some (.cells 1 [(vI s_22.2.2.2)])),(n_85,gB 3 Slot_.enc v_83),(n_45,kB (gb_32 || !s_43.1.isEmpty) 3 Span.enc r_65)]:Hp)) (fun _=>True) ?_ ?_
       ·rcases au h_84 with⟨hc_86,h_84⟩ | ⟨hc_86,h_84⟩
        ·refine aB rfl hc_86 (aa (ae (gV n_30 3 s_22.1) wz rfl (ae (vI (w64 ((s_22.1.length:Int) - 1))) wz rfl (aA 0 3 il ft yK Au rfl rfl (vL eI r_13) rfl wz (aA 0 4 il ft sz3 ag3 rfl rfl (vI s_22.2.2.2) rfl wz (ae (vI (w64 (s_22.2.2.2 + 1))) wz rfl ?_))))))
         obtain ⟨y_87,hy_88,h_84⟩:=bind_some h_84
         refine dL kE rfl rfl hy_88 rfl wz (bG sz3 ag3 rfl (vI y_87) rfl wz ?_)
         obtain ⟨_,hi_89,h_84⟩:=bind_some h_84
         refine vw H6 rfl rfl (jf hi_89) (gu hi_89) wz (aI tC rfl 0 rfl wz (aI iC rfl 1 rfl wz ?_))
         obtain ⟨e_90,hy_91,h_84⟩:=bind_some h_84
         refine yJ 0 il ft 5 sz3 rfl rfl hy_91 (⟨(⟨e_90.Time.From,y_87⟩:Window),e_90.Entry⟩:Slot_) rfl wz (dN (v':=(gV n_30 3 (s_22.1.set (0 + ((w64 ((s_22.1.length:Int) - 1))).toNat) (⟨(⟨e_90.Time.From,y_87⟩:Window),e_90.Entry⟩:Slot_)))) 9 rfl (jW (by simp)) (dN (v':=(gV n_30 3 (s_22.1.set (0 + ((w64 ((s_22.1.length:Int) - 1))).toNat) (⟨(⟨e_90.Time.From,y_87⟩:Window),e_90.Entry⟩:Slot_)))) 84 rfl (jW (by simp)) (ak ?_)))
         obtain rfl:=ah h_84
         exact aR n_30 trivial rfl (aJ rfl)
        ·refine ay rfl hc_86 (bn (ae (gV n_30 3 s_22.1) wz rfl (aA 1 3 (.inr (by kernel_rfl)) (fun _ _ ag=>trivial) yK Au rfl rfl (vL eI r_13) rfl wz (aA 2 4 (.inr (by kernel_rfl)) (fun _ _ ag=>⟨.inl ⟨rfl,rfl⟩,trivial⟩) sz3 ag3 rfl rfl (vI s_22.2.2.2) rfl wz ?_))))
         obtain ⟨y_92,hy_93,h_84⟩:=bind_some h_84
         refine dL kE rfl rfl hy_93 rfl wz (bG sz3 ag3 rfl (vI y_92) rfl wz (aA 5 3 (.inr (by kernel_rfl)) (fun _ _ ag=>⟨.inl ⟨rfl,rfl⟩,⟨.inl ⟨rfl,rfl⟩,trivial⟩⟩) yK Au rfl rfl (vL eI r_13) rfl wz (aA 6 4 (.inr (by kernel_rfl)) (fun _ _ ag=>⟨.inl ⟨rfl,rfl⟩,⟨.inl ⟨rfl,rfl⟩,⟨.inl ⟨rfl,rfl⟩,trivial⟩⟩⟩) sz3 ag3 rfl rfl (vI s_22.2.2.2) rfl wz (ae (vI (w64 (s_22.2.2.2 + 1))) wz rfl ?_))))
         obtain ⟨y_94,hy_95,h_84⟩:=bind_some h_84
         refine dL kE rfl rfl hy_95 rfl wz (bG sz3 ag3 rfl (vI y_94) rfl wz (ae (.d (.agg (Window.enc (⟨y_92,y_94⟩:Window)))) wz (by kernel_rfl) (ae (vS v_69) wz rfl (ae (.d (.agg (Slot_.enc (⟨(⟨y_92,y_94⟩:Window),v_69⟩:Slot_)))) wz (by kernel_rfl) (eG (([(⟨(⟨y_92,y_94⟩:Window),v_69⟩:Slot_)]:List Slot_).map Slot_.enc) H6 ez67 rfl rfl rfl rfl rfl wz ?_)))))
         obtain ⟨a_96,hz_97,h_84⟩:=bind_some h_84
         refine kX 14 (.inr (by kernel_rfl)) (fun _ _ ag=>⟨.inr (.inl (Li (Fs ag (i:=5) (j:=3) rfl rfl (by decide)))),⟨.inr (.inl (Li (Fs ag (i:=5) (j:=4) rfl rfl (by decide)))),⟨.inr (.inl (Li (Fs ag (i:=5) (j:=3) rfl rfl (by decide)))),⟨.inr (.inl (Li (Fs ag (i:=5) (j:=4) rfl rfl (by decide)))),trivial⟩⟩⟩⟩) (i:=5) el67 el67 sz76 z76 rfl (by decide) by76 (by decide) (fun _=>rfl) rfl rfl rfl hz_97 wz (fun n_98=>ae (gV n_98 3 a_96) wz rfl (ak ?_))
         obtain rfl:=ah h_84
         exact aR n_98 trivial rfl (aJ rfl)
       ·rintro n_85 _ sl_ H_ hp_ hq_
        refine aL _ hp_ hq_ (af (af (aa (aA 0 4 il ft sz3 ag3 rfl rfl (vI s_22.2.2.2) rfl wz (ak (aa (dm 0 (.inl rfl) z3 rfl wz (fun n_99=>eY 0 il ft 7 sz3 rfl rfl [(vI s_22.2.2.2)] rfl wz (ak (aa (aA 0 7 il ft sz3 ag3 rfl rfl (vI s_22.2.2.2) rfl wz (ae (vI (w64 (s_22.2.2.2 + 1))) wz rfl (eY 0 il ft 7 sz3 rfl rfl [(vI (w64 (s_22.2.2.2 + 1)))] rfl wz (ak ?_))))))))))))))
        obtain rfl:=ah hc_33
        exact aP (k_17,(v_83,r_65,s_43.2,(w64 (s_22.2.2.2 + 1))),n_99,n_85,n_45,(gb_32 || !s_43.1.isEmpty)) hL_34 (Nat.lt_succ_self _) rfl (pre_is [0,1,2,3,7,5,6] (by decide) rfl)
   ·refine ay rfl hc_37 (aQ ?_)
    obtain rfl:=ah hc_33
    obtain rfl:=ah hL_34
    exact aR ((s_22.1,s_22.2.1,s_22.2.2.1,s_22.2.2.2),n_29,n_30,n_31,gb_32) rfl rfl (aJ rfl)
 ·rintro ⟨s_22,n_29,n_30,n_31,gb_32⟩ ho_ sl_ H_ hp_ hq_
  subst ho_
  refine aL _ hp_ hq_ (af (aa (ae (gV n_30 3 s_22.1) wz rfl (ae (gV n_30 3 s_22.1) wz rfl (ak (iB 5 rfl (dX 6 5 rfl rfl (dX 9 5 rfl rfl (dX 110 5 rfl rfl ?_)))))))))
  obtain rfl:=ah hF
  exact aC (aO (.inr rfl) [(vL Slot_.enc s_22.1)] ⟨rfl,trivial⟩ rfl rfl rfl)
theorem xX {l_1:(List Entry)} {p_2:Player} {wv_3:Window} {r:(List Slot_)×Int} (hF:jR l_1 p_2 wv_3=some r) :
  FnM Tryz.prog 33 [(vL Entry.enc l_1),(.d (.agg (Player.enc p_2))),(.d (.agg (Window.enc wv_3)))] [] (.tup [(vL Slot_.enc r.1),(vI r.2)]) []:=by
 refine FnM.of_wH ⟨Tryz.prog,20,[],[]⟩ rfl Tryz.func33 rfl rfl (Nat.le_of_ble_eq_true rfl) (by kernel_rfl) ?_
 unfold jR at hF
 refine af (aa (dR 0 (.inl rfl) [(vS p_2.Key),(vS p_2.Screen),(vI p_2.Zone),(vL eS p_2.Tags)] rfl rfl wz (fun n_4=>dR 0 (.inl rfl) [(vI wv_3.From),(vI wv_3.To)] rfl rfl wz (fun n_5=>ae .nil wz rfl (ae (vI 0) wz rfl (ak (af (af (aa (ae (vL Entry.enc l_1) wz rfl (aA 0 0 il ft tN vX rfl rfl (.d (.agg (Player.enc p_2))) rfl wz (aA 0 1 il ft kW qd rfl rfl (.d (.agg (Window.enc wv_3))) rfl wz ?_))))))))))))
 obtain ⟨r_6,hr_7,hF⟩:=bind_some hF
 refine aG (vZ hr_7) rfl hb93 rfl rfl rfl rfl wz (ae (vI r_6) wz rfl (ak (af (aa (ae (vI r_6) wz rfl (ae (vB (r_6 != 0)) wz rfl (ak ?_)))))))
 rcases au hF with⟨hc_8,hF⟩ | ⟨hc_8,hF⟩
 ·refine aB rfl hc_8 (af (aa (ae (vI r_6) wz rfl (ae .nil wz rfl (ae (vI r_6) wz rfl (ak ?_))))))
  obtain rfl:=ah hF
  exact aC (aO (.inr rfl) [.nil,(vI r_6)] ⟨rfl,⟨rfl,trivial⟩⟩ rfl rfl rfl)
 ·refine ay rfl hc_8 (av (af (aa (ae (vL Entry.enc l_1) wz rfl (aA 0 0 il ft tN vX rfl rfl (.d (.agg (Player.enc p_2))) rfl wz (aA 0 1 il ft kW qd rfl rfl (.d (.agg (Window.enc wv_3))) rfl wz ?_))))))
  obtain ⟨r_9,hr_10,hF⟩:=bind_some hF
  refine aG (xW hr_10) rfl hb94 rfl rfl rfl rfl wz (ae (vL Slot_.enc r_9) wz rfl (ae (vI 0) wz rfl (ak ?_)))
  obtain rfl:=ah hF
  exact aC (aO (.inr rfl) [(vL Slot_.enc r_9),(vI 0)] ⟨rfl,⟨rfl,trivial⟩⟩ rfl rfl rfl)
theorem gU {n_1:Int} {r:Bool} (hF:di n_1=some r) :
  FnM Tryz.prog 101 [(vI n_1)] [] (vB r) []:=by
 refine FnM.of_wH ⟨Tryz.prog,9,[],[]⟩ rfl Tryz.func101 rfl rfl (Nat.le_of_ble_eq_true rfl) (by kernel_rfl) ?_
 unfold di at hF
 refine af (aa (ae (vB false) wz rfl (ak (af ?_))))
 obtain ⟨v_2,h_3,hF⟩:=bind_some hF
 refine aH (β:=Unit) (fun _=>([(2,(vB v_2))]:List (Nat×V))) (fun _=>([]:Hp)) (fun _=>True) ?_ ?_
 ·refine aa (ae (vI n_1) wz rfl (ae (vB (decide (n_1≥0))) wz rfl ?_))
  rcases au h_3 with⟨hc_4,h_3⟩ | ⟨hc_4,h_3⟩
  ·refine aD rfl hc_4 wz (ae (vI n_1) wa rfl (ae (vB (decide (n_1 < 345686400000))) wa rfl (ae (vB (decide (n_1 < 345686400000))) wz rfl (ae (vB (decide (n_1 < 345686400000))) wz rfl (ak ?_)))))
   obtain rfl:=ah h_3
   exact cu
  ·refine aD rfl hc_4 wz (aj wa (aj wa (ae (vB false) wz rfl (ae (vB false) wz rfl (ak ?_)))))
   obtain rfl:=ah h_3
   exact cu
 ·rintro ⟨⟩ _ sl_ H_ hp_ hq_
  refine aL _ hp_ hq_ ?_
  obtain rfl:=ah hF
  exact aC (aO (.inr rfl) [(vB v_2)] ⟨rfl,trivial⟩ rfl rfl rfl)
theorem nH {l_1:(List Entry)} {p_2:Player} {atv_3:Int} {r:Int} (hF:dn l_1 p_2 atv_3=some r) :
  FnM Tryz.prog 95 [(vL Entry.enc l_1),(.d (.agg (Player.enc p_2))),(vI atv_3)] [] (vI r) []:=by
 refine FnM.of_wH ⟨Tryz.prog,22,[],[]⟩ rfl Tryz.func95 rfl rfl (Nat.le_of_ble_eq_true rfl) (by kernel_rfl) ?_
 unfold dn at hF
 refine af (aa (dR 0 (.inl rfl) [(vS p_2.Key),(vS p_2.Screen),(vI p_2.Zone),(vL eS p_2.Tags)] rfl rfl wz (fun n_4=>ae (vI 0) wz rfl (ak (af (af (aa (ae (vL Entry.enc l_1) wz rfl ?_))))))))
 obtain ⟨r_5,hr_6,hF⟩:=bind_some hF
 refine aG (jH hr_6) rfl M4 rfl rfl rfl rfl wz (ae (vI r_5) wz rfl (ak (af (aa (ae (vI r_5) wz rfl (ae (vB (r_5 != 0)) wz rfl (ak ?_)))))))
 rcases au hF with⟨hc_7,hF⟩ | ⟨hc_7,hF⟩
 ·refine aB rfl hc_7 (af (aa (ae (vI r_5) wz rfl (ae (vI r_5) wz rfl (ak ?_)))))
  obtain rfl:=ah hF
  exact aC (aO (.inr rfl) [(vI r_5)] ⟨rfl,trivial⟩ rfl rfl rfl)
 ·refine ay rfl hc_7 (av (af (af (aa (aA 0 0 il ft tN vX rfl rfl (.d (.agg (Player.enc p_2))) rfl wz ?_)))))
  obtain ⟨r_8,hr_9,hF⟩:=bind_some hF
  refine aG (nD hr_9) rfl hb169 rfl rfl rfl rfl wz (ae (vI r_8) wz rfl (ak (af (aa (ae (vI r_8) wz rfl (ae (vB (r_8 != 0)) wz rfl (ak ?_)))))))
  rcases au hF with⟨hc_10,hF⟩ | ⟨hc_10,hF⟩
  ·refine aB rfl hc_10 (af (aa (ae (vI r_8) wz rfl (ae (vI r_8) wz rfl (ak ?_)))))
   obtain rfl:=ah hF
   exact aC (aO (.inr rfl) [(vI r_8)] ⟨rfl,trivial⟩ rfl rfl rfl)
  ·refine ay rfl hc_10 (av (af (af (aa (ae (vI atv_3) wz rfl ?_)))))
   obtain ⟨r_11,hr_12,hF⟩:=bind_some hF
   refine aG (gU hr_12) rfl Bd rfl rfl rfl rfl wz (ae (vB (!r_11)) wz rfl (ak ?_))
   rcases au hF with⟨hc_13,hF⟩ | ⟨hc_13,hF⟩
   ·refine aB rfl hc_13 (af (aa (ae (vI 1) wz rfl (ak ?_))))
    obtain rfl:=ah hF
    exact aC (aO (.inr rfl) [(vI 1)] ⟨rfl,trivial⟩ rfl rfl rfl)
   ·refine ay rfl hc_13 (av (af (aa (ae (vI 0) wz rfl (ak ?_)))))
    obtain rfl:=ah hF
    exact aC (aO (.inr rfl) [(vI 0)] ⟨rfl,trivial⟩ rfl rfl rfl)
theorem zf {x_1:Int} {r:Int} (hF:qa x_1=some r) :
  FnM Tryz.prog 224 [(.d (.int .u64 x_1))] [] (vI r) []:=by
 refine FnM.of_wH ⟨Tryz.prog,25,[],[]⟩ rfl Tryz.func224 rfl rfl (Nat.le_of_ble_eq_true rfl) (by kernel_rfl) ?_
 unfold qa at hF
 refine af (aa (ae (vI 0) wz rfl (ak (af (af (aa (ae (.d (.int .u64 x_1)) wz rfl (ae (vB (decide (x_1≥4294967296))) wz rfl (ak ?_)))))))))
 obtain ⟨v_2,h_3,hF⟩:=bind_some hF
 refine aH (β:=Unit) (fun _=>([(0,(.d (.int .u64 v_2.1))),(2,(vI v_2.2))]:List (Nat×V))) (fun _=>([]:Hp)) (fun _=>True) ?_ ?_
 ·rcases au h_3 with⟨hc_4,h_3⟩ | ⟨hc_4,h_3⟩
  ·refine aB rfl hc_4 (af (aa (ae (.d (.int .u64 x_1)) wz rfl ?_)))
   obtain ⟨q_5,hz_6,h_3⟩:=bind_some h_3
   refine H5 rfl rfl hz_6 wz (ae (.d (.int .u64 q_5)) wz rfl (ak (aa (ae (vI 32) wz rfl (ak ?_)))))
   obtain rfl:=ah h_3
   exact cu
  ·refine ay rfl hc_4 (av ?_)
   obtain rfl:=ah h_3
   exact cu
 ·rintro ⟨⟩ _ sl_ H_ hp_ hq_
  refine aL _ hp_ hq_ (af (af (aa (ae (.d (.int .u64 v_2.1)) wz rfl (ae (vB (decide (v_2.1≥65536))) wz rfl (ak ?_))))))
  obtain ⟨v_7,h_8,hF⟩:=bind_some hF
  refine aH (β:=Unit) (fun _=>([(0,(.d (.int .u64 v_7.1))),(2,(vI v_7.2))]:List (Nat×V))) (fun _=>([]:Hp)) (fun _=>True) ?_ ?_
  ·rcases au h_8 with⟨hc_9,h_8⟩ | ⟨hc_9,h_8⟩
   ·refine aB rfl hc_9 (af (aa (ae (.d (.int .u64 v_2.1)) wz rfl ?_)))
    obtain ⟨q_10,hz_11,h_8⟩:=bind_some h_8
    refine H5 rfl rfl hz_11 wz (ae (.d (.int .u64 q_10)) wz rfl (ak (aa (ae (vI v_2.2) wz rfl (ae (vI (w64 (v_2.2 + 16))) wz rfl (ae (vI (w64 (v_2.2 + 16))) wz rfl (ak ?_)))))))
    obtain rfl:=ah h_8
    exact cu
   ·refine ay rfl hc_9 (av ?_)
    obtain rfl:=ah h_8
    exact cu
  ·rintro ⟨⟩ _ sl_ H_ hp_ hq_
   refine aL _ hp_ hq_ (af (af (aa (ae (.d (.int .u64 v_7.1)) wz rfl (ae (vB (decide (v_7.1≥256))) wz rfl (ak ?_))))))
   obtain ⟨v_12,h_13,hF⟩:=bind_some hF
   refine aH (β:=Unit) (fun _=>([(0,(.d (.int .u64 v_12.1))),(2,(vI v_12.2))]:List (Nat×V))) (fun _=>([]:Hp)) (fun _=>True) ?_ ?_
   ·rcases au h_13 with⟨hc_14,h_13⟩ | ⟨hc_14,h_13⟩
    ·refine aB rfl hc_14 (af (aa (ae (.d (.int .u64 v_7.1)) wz rfl ?_)))
     obtain ⟨q_15,hz_16,h_13⟩:=bind_some h_13
     refine H5 rfl rfl hz_16 wz (ae (.d (.int .u64 q_15)) wz rfl (ak (aa (ae (vI v_7.2) wz rfl (ae (vI (w64 (v_7.2 + 8))) wz rfl (ae (vI (w64 (v_7.2 + 8))) wz rfl (ak ?_)))))))
     obtain rfl:=ah h_13
     exact cu
    ·refine ay rfl hc_14 (av ?_)
     obtain rfl:=ah h_13
     exact cu
   ·rintro ⟨⟩ _ sl_ H_ hp_ hq_
    refine aL _ hp_ hq_ (af (aa (ae (vI v_12.2) wz rfl (ae (.d (.int .u64 v_12.1)) wz rfl (mG zT un5 rfl wz ?_)))))
    obtain ⟨b_17,hy_18,hF⟩:=bind_some hF
    refine kU un9 rfl rfl hy_18 wz (mG un5 un3 rfl wz (ae (vI (w64 (v_12.2 + (w64 (b_17.toNat:Int))))) wz rfl (ae (vI (w64 (v_12.2 + (w64 (b_17.toNat:Int))))) wz rfl (ak ?_))))
    obtain rfl:=ah hF
    exact aC (aO (.inr rfl) [(vI (w64 (v_12.2 + (w64 (b_17.toNat:Int)))))] ⟨rfl,trivial⟩ rfl rfl rfl)
theorem uB {x_1:Int} {r:Int} (hF:iQ x_1=some r) :
  FnM Tryz.prog 167 [(.d (.int .u64 x_1))] [] (vI r) []:=by
 refine FnM.of_wH ⟨Tryz.prog,8,[],[]⟩ rfl Tryz.func167 rfl rfl (Nat.le_of_ble_eq_true rfl) (by kernel_rfl) ?_
 unfold iQ at hF
 refine af (aa (ae (vI 0) wz rfl (ak (af (ay rfl rfl (av (af (aa (ae (.d (.int .u64 x_1)) wz rfl ?_)))))))))
 obtain ⟨r_2,hr_3,hF⟩:=bind_some hF
 refine aG (zf hr_3) rfl hb224 rfl rfl rfl rfl wz (ae (vI r_2) wz rfl (ak ?_))
 obtain rfl:=ah hF
 exact aC (aO (.inr rfl) [(vI r_2)] ⟨rfl,trivial⟩ rfl rfl rfl)
theorem jF {data_1:(List Span)} {a_2:Int} {b_3:Int} {r:(List Span)} (hF:dM data_1 a_2 b_3=some r) :
  FnM Tryz.prog 287 [(dV (ax 0) 3 data_1),(vI a_2),(vI b_3),(.fn 177 [])] (([]:List Box)++gI 3 Span.enc data_1) (.tup []) (([]:List Box).map some++gT data_1 (gB 3 Span.enc r)):=by
 refine FnM.of_wHv ⟨Tryz.prog,53,[],[]⟩ rfl Tryz.func287 rfl rfl (Nat.le_of_ble_eq_true rfl) (by kernel_rfl) ?_
 unfold dM at hF
 refine af (aa (ae (vI a_2) wz rfl (ae (vI (w64 (a_2 + 1))) wz rfl (ae (vI (w64 (a_2 + 1))) wz rfl (ak ?_)))))
 obtain ⟨o_13,hj_14,hF⟩:=bind_some hF
 obtain ⟨nq_51,hj_14⟩:=cK hj_14
 refine aH (β:=((List Span)×Int)) (fun (s_10:(List Span)×Int)=>([]:List (Nat×V))) (fun (s_10:(List Span)×Int)=>([((ax 0),gB 3 Span.enc s_10.1)]:Hp)) (fun p=>o_13 = .go p) ?_ ?_
 ·refine aF (aV (β:=Nat×((List Span)×Int)) (fun p=>(fun (k_5:Nat) (s_10:(List Span)×Int)=>([(0,(dV (ax 0) 3 s_10.1)),(1,(vI a_2)),(2,(vI b_3)),(3,(.fn 177 [])),(8,(vI s_10.2))]:List (Nat×V))) p.1 p.2) (fun p=>(fun (k_5:Nat) (s_10:(List Span)×Int)=>([((ax 0),gB 3 Span.enc s_10.1)]:Hp)) p.1 p.2) (fun p=>iterN (fun s=>dF b_3 a_2 s) p.1 p.2=some o_13) (fun p=>p.1) (nq_51,(data_1,(w64 (a_2 + 1)))) hj_14 rfl (aJ rfl) ?_)
  rintro ⟨k_5,s_10⟩ hL_12
  dsimp only at hL_12
  cases k_5 with
  | zero=>cases hL_12
  | succ k_5 =>
   obtain ⟨c_,hc_11,hL_12⟩:=bind_some hL_12
   unfold dF at hc_11
   refine af (af (aa (ae (vI s_10.2) wz rfl (ae (vI b_3) wz rfl (ae (vB (decide (s_10.2 < b_3))) wz rfl (ak ?_))))))
   rcases au hc_11 with⟨hc_15,hc_11⟩ | ⟨hc_15,hc_11⟩
   ·refine aB rfl hc_15 (av (af (aF (af (aa (ae (vI s_10.2) wz rfl (ae (vI s_10.2) wz rfl (ak ?_))))))))
    obtain ⟨o_24,hj_25,hc_11⟩:=bind_some hc_11
    obtain ⟨nq_50,hj_25⟩:=cK hj_25
    refine aH (β:=((List Span)×Int)) (fun (s_21:(List Span)×Int)=>([(0,(dV (ax 0) 3 s_21.1)),(1,(vI a_2)),(2,(vI b_3)),(3,(.fn 177 [])),(8,(vI s_10.2))]:List (Nat×V))) (fun (s_21:(List Span)×Int)=>([((ax 0),gB 3 Span.enc s_21.1)]:Hp)) (fun p=>o_24 = .go p) ?_ ?_
    ·refine aF (aV (β:=Nat×((List Span)×Int)) (fun p=>(fun (k_16:Nat) (s_21:(List Span)×Int)=>([(0,(dV (ax 0) 3 s_21.1)),(1,(vI a_2)),(2,(vI b_3)),(3,(.fn 177 [])),(8,(vI s_10.2)),(9,(vI s_21.2))]:List (Nat×V))) p.1 p.2) (fun p=>(fun (k_16:Nat) (s_21:(List Span)×Int)=>([((ax 0),gB 3 Span.enc s_21.1)]:Hp)) p.1 p.2) (fun p=>iterN (fun s=>dE a_2 s) p.1 p.2=some o_24) (fun p=>p.1) (nq_50,(s_10.1,s_10.2)) hj_25 rfl (aJ rfl) ?_)
     rintro ⟨k_16,s_21⟩ hL_23
     dsimp only at hL_23
     cases k_16 with
     | zero=>cases hL_23
     | succ k_16 =>
      obtain ⟨c_,hc_22,hL_23⟩:=bind_some hL_23
      unfold dE at hc_22
      refine af (af ?_)
      obtain ⟨v_26,h_27,hc_22⟩:=bind_some hc_22
      refine aH (β:=Unit) (fun _=>([(0,(dV (ax 0) 3 s_21.1)),(1,(vI a_2)),(2,(vI b_3)),(3,(.fn 177 [])),(8,(vI s_10.2)),(9,(vI s_21.2)),(34,(vB v_26))]:List (Nat×V))) (fun _=>([((ax 0),gB 3 Span.enc s_21.1)]:Hp)) (fun _=>True) ?_ ?_
      ·refine bn (ae (vI s_21.2) wz rfl (ae (vI a_2) wz rfl (ae (vB (decide (s_21.2 > a_2))) wz rfl ?_)))
       rcases au h_27 with⟨hc_28,h_27⟩ | ⟨hc_28,h_27⟩
       ·refine aD rfl hc_28 wz (ae (.fn 177 []) wa rfl (ae (dV (ax 0) 3 s_21.1) wa rfl (ae (vI s_21.2) wa rfl ?_)))
        obtain ⟨_,hi_29,h_27⟩:=bind_some h_27
        refine lw mO rfl rfl (jf hi_29) (gu hi_29) wa ?_
        obtain ⟨e_30,hy_31,h_27⟩:=bind_some h_27
        refine kC 8 0 (.inr (by kernel_rfl)) (fun _ _ ag=>trivial) iO oD rfl rfl hy_31 (.d (.agg (Span.enc e_30))) rfl wa (ae (dV (ax 0) 3 s_21.1) wa rfl (ae (vI s_21.2) wa rfl (ae (vI (w64 (s_21.2 - 1))) wa rfl ?_)))
        obtain ⟨_,hi_32,h_27⟩:=bind_some h_27
        refine lw mO rfl rfl (jf hi_32) (gu hi_32) wa ?_
        obtain ⟨e_33,hy_34,h_27⟩:=bind_some h_27
        refine kC 13 0 (.inr (by kernel_rfl)) (fun _ _ ag=>⟨.inl ⟨rfl,rfl⟩,trivial⟩) iO oD rfl rfl hy_34 (.d (.agg (Span.enc e_33))) rfl wa ?_
        obtain ⟨r_35,hr_36,h_27⟩:=bind_some h_27
        refine aG (qB hr_36) rfl hb177 rfl rfl rfl rfl wa (ae (vB (decide (r_35 < 0))) wa rfl (ae (vB (decide (r_35 < 0))) wz rfl (ak ?_)))
        obtain rfl:=ah h_27
        exact cu
       ·refine aD rfl hc_28 wz (aj wa (aj wa (aj wa (aj wa (aj wa (aj wa (aj wa (aj wa (aj wa (aj wa (aj wa (aj wa (ae (vB false) wz rfl (ak ?_))))))))))))))
        obtain rfl:=ah h_27
        exact cu
      ·rintro ⟨⟩ _ sl_ H_ hp_ hq_
       refine aL _ hp_ hq_ ?_
       rcases au hc_22 with⟨hc_37,hc_22⟩ | ⟨hc_37,hc_22⟩
       ·refine aB rfl hc_37 (av (af (aF (bn (ae (dV (ax 0) 3 s_21.1) wz rfl (ae (vI s_21.2) wz rfl (ae (dV (ax 0) 3 s_21.1) wz rfl (ae (vI s_21.2) wz rfl (ae (vI (w64 (s_21.2 - 1))) wz rfl (ae (dV (ax 0) 3 s_21.1) wz rfl (ae (vI s_21.2) wz rfl (ae (vI (w64 (s_21.2 - 1))) wz rfl ?_))))))))))))
        obtain ⟨_,hi_38,hc_22⟩:=bind_some hc_22
        refine lw mO rfl rfl (jf hi_38) (gu hi_38) wz ?_
        obtain ⟨e_39,hy_40,hc_22⟩:=bind_some hc_22
        refine kC 9 0 (.inr (by kernel_rfl)) (fun _ _ ag=>trivial) iO oD rfl rfl hy_40 (.d (.agg (Span.enc e_39))) rfl wz (ae (dV (ax 0) 3 s_21.1) wz rfl (ae (vI s_21.2) wz rfl ?_))
        obtain ⟨_,hi_41,hc_22⟩:=bind_some hc_22
        refine lw mO rfl rfl (jf hi_41) (gu hi_41) wz ?_
        obtain ⟨e_42,hy_43,hc_22⟩:=bind_some hc_22
        refine kC 13 0 (.inr (by kernel_rfl)) (fun _ _ ag=>⟨.inl ⟨rfl,rfl⟩,trivial⟩) iO oD rfl rfl hy_43 (.d (.agg (Span.enc e_42))) rfl wz ?_
        obtain ⟨_,hi_44,hc_22⟩:=bind_some hc_22
        refine lw mO rfl rfl (jf hi_44) (gu hi_44) wz ?_
        obtain ⟨e_45,hy_46,hc_22⟩:=bind_some hc_22
        refine yJ 15 (.inr (by kernel_rfl)) (fun _ _ ag=>⟨.inr (.inr (by kernel_rfl)),⟨.inr (.inr (by kernel_rfl)),trivial⟩⟩) 0 iO rfl rfl hy_46 e_39 (FH rfl rfl (bC (kz _ _) (bC rfl (bC rfl rfl))) rfl rfl) wz (dN (v':=(dV (ax 0) 3 (s_21.1.set (0 + (s_21.2).toNat) e_39))) 0 rfl (gp (by simp)) (dN (v':=(dV (ax 0) 3 (s_21.1.set (0 + (s_21.2).toNat) e_39))) 37 rfl (gp (by simp)) (dN (v':=(dV (ax 0) 3 (s_21.1.set (0 + (s_21.2).toNat) e_39))) 39 rfl (gp (by simp)) (dN (v':=(dV (ax 0) 3 (s_21.1.set (0 + (s_21.2).toNat) e_39))) 42 rfl (gp (by simp)) (dN (v':=(dV (ax 0) 3 (s_21.1.set (0 + (s_21.2).toNat) e_39))) 47 rfl (gp (by simp)) ?_)))))
        obtain ⟨_,hi_47,hc_22⟩:=bind_some hc_22
        refine lw mO rfl rfl (jf hi_47) (gu hi_47) wz ?_
        obtain ⟨e_48,hy_49,hc_22⟩:=bind_some hc_22
        refine yJ 17 (.inr (by kernel_rfl)) (fun _ _ ag=>⟨.inr (.inr (by kernel_rfl)),⟨.inr (.inr (by kernel_rfl)),⟨.inr (.inr (by kernel_rfl)),trivial⟩⟩⟩) 0 iO rfl rfl hy_49 e_42 (FH rfl rfl (bC (kz _ _) (bC rfl (bC rfl rfl))) rfl rfl) wz (dN (v':=(dV (ax 0) 3 ((s_21.1.set (0 + (s_21.2).toNat) e_39).set (0 + ((w64 (s_21.2 - 1))).toNat) e_42))) 0 rfl (gp (by simp)) (dN (v':=(dV (ax 0) 3 ((s_21.1.set (0 + (s_21.2).toNat) e_39).set (0 + ((w64 (s_21.2 - 1))).toNat) e_42))) 37 rfl (gp (by simp)) (dN (v':=(dV (ax 0) 3 ((s_21.1.set (0 + (s_21.2).toNat) e_39).set (0 + ((w64 (s_21.2 - 1))).toNat) e_42))) 39 rfl (gp (by simp)) (dN (v':=(dV (ax 0) 3 ((s_21.1.set (0 + (s_21.2).toNat) e_39).set (0 + ((w64 (s_21.2 - 1))).toNat) e_42))) 42 rfl (gp (by simp)) (dN (v':=(dV (ax 0) 3 ((s_21.1.set (0 + (s_21.2).toNat) e_39).set (0 + ((w64 (s_21.2 - 1))).toNat) e_42))) 47 rfl (gp (by simp)) (ak (aa (ae (vI s_21.2) wz rfl (ae (vI (w64 (s_21.2 - 1))) wz rfl (ae (vI (w64 (s_21.2 - 1))) wz rfl (ak ?_)))))))))))
        obtain rfl:=ah hc_22
        exact aP (k_16,(((s_21.1.set (0 + (s_21.2).toNat) e_39).set (0 + ((w64 (s_21.2 - 1))).toNat) e_42),(w64 (s_21.2 - 1)))) hL_23 (Nat.lt_succ_self _) rfl (aJ rfl)
       ·refine ay rfl hc_37 (aQ ?_)
        obtain rfl:=ah hc_22
        obtain rfl:=ah hL_23
        exact aR ((s_21.1,s_21.2)) rfl rfl (aJ rfl)
    ·rintro s_21 ho_ sl_ H_ hp_ hq_
     subst ho_
     refine aL _ hp_ hq_ (aa (ae (vI s_10.2) wz rfl (ae (vI (w64 (s_10.2 + 1))) wz rfl (ae (vI (w64 (s_10.2 + 1))) wz rfl (ak ?_)))))
     obtain rfl:=ah hc_11
     exact aP (k_5,(s_21.1,(w64 (s_10.2 + 1)))) hL_12 (Nat.lt_succ_self _) rfl (aJ rfl)
   ·refine ay rfl hc_15 (aQ ?_)
    obtain rfl:=ah hc_11
    obtain rfl:=ah hL_12
    exact aR ((s_10.1,s_10.2)) rfl rfl (aJ rfl)
 ·rintro s_10 ho_ sl_ H_ hp_ hq_
  subst ho_
  show wm _ _ _ _ _ _ _ _
  obtain rfl:=ah hF
  exact Cf (H0:=([((ax 0),gB 3 Span.enc s_10.1)]:Hp)) (sl':=envS []) hq_ (BR (bs:=([]:List Box)) (os:=([]:List Box)) (xs:=data_1) (o:=gB 3 Span.enc s_10.1) (.inl rfl) [] trivial rfl rfl rfl rfl rfl (by kernel_rfl) oo rfl)
theorem kG {data_1:(List Span)} {a_2:Int} {b_3:Int} {limit_4:Int} {r:(List Span)} (hF:eU data_1 a_2 b_3 limit_4=some r) :
  FnM Tryz.prog 229 [(dV (ax 0) 3 data_1),(vI a_2),(vI b_3),(vI limit_4),(.fn 177 [])] (([]:List Box)++gI 3 Span.enc data_1) (.tup []) (([]:List Box).map some++gT data_1 (gB 3 Span.enc r)):=by
 refine FnM.of_wHv ⟨Tryz.prog,148,[],[]⟩ rfl Tryz.func229 rfl rfl (Nat.le_of_ble_eq_true rfl) (by kernel_rfl) ?_
 unfold eU at hF
 refine af (aa (ae (vB true) wz rfl (ak (af (aa (ae (vB true) wz rfl (ak ?_)))))))
 obtain ⟨o_14,hj_15,hF⟩:=bind_some hF
 obtain ⟨nq_21,hj_15⟩:=cK hj_15
 refine aH (β:=(Unit)) (fun (s_11:Unit)=>([]:List (Nat×V))) (fun (s_11:Unit)=>([((ax 0),gB 3 Span.enc data_1)]:Hp)) (fun p=>o_14 = .go p) ?_ ?_
 ·refine aF (aV (β:=Nat×(Unit)) (fun p=>(fun (k_6:Nat) (s_11:Unit)=>([(0,(dV (ax 0) 3 data_1)),(1,(vI a_2)),(2,(vI b_3)),(3,(vI limit_4)),(4,(.fn 177 [])),(10,(vB true)),(11,(vB true))]:List (Nat×V))) p.1 p.2) (fun p=>(fun (k_6:Nat) (s_11:Unit)=>([((ax 0),gB 3 Span.enc data_1)]:Hp)) p.1 p.2) (fun p=>iterN (fun s=>eu b_3 a_2 data_1 limit_4 s) p.1 p.2=some o_14) (fun p=>p.1) (nq_21,()) hj_15 rfl (aJ rfl) ?_)
  rintro ⟨k_6,s_11⟩ hL_13
  dsimp only at hL_13
  cases k_6 with
  | zero=>cases hL_13
  | succ k_6 =>
   obtain ⟨c_,hc_12,hL_13⟩:=bind_some hL_13
   unfold eu at hc_12
   refine aF (af (aa (ae (vI b_3) wz rfl (ae (vI a_2) wz rfl (ae (vI (w64 (b_3 - a_2))) wz rfl (ae (vI (w64 (b_3 - a_2))) wz rfl (ak (af (af (aa (ae (vI (w64 (b_3 - a_2))) wz rfl (ae (vB (decide ((w64 (b_3 - a_2))≤12))) wz rfl (ak ?_)))))))))))))
   rcases au hc_12 with⟨hc_16,hc_12⟩ | ⟨hc_16,hc_12⟩
   ·refine aB rfl hc_16 (af (aa (ae (dV (ax 0) 3 data_1) wz rfl (ae (vI a_2) wz rfl (ae (vI b_3) wz rfl (ae (.fn 177 []) wz rfl ?_))))))
    obtain ⟨r_17,hr_18,hc_12⟩:=bind_some hc_12
    obtain ⟨_,hs_19,hc_12⟩:=bind_some hc_12
    replace hs_19:=nQ hs_19
    refine mW 0 [] 0 0 il ft (jF hr_18) rfl hb287 rfl rfl rfl (by kernel_rfl) rfl (.inr (.inl rfl)) rfl (by kernel_rfl) (by kernel_rfl) (by kernel_rfl) (by kernel_rfl) rfl (by decide) (by kernel_rfl) oo (yw hs_19) wz ([((ax 0),gB 3 Span.enc r_17)]:Hp) (by kernel_rfl) (dN (v':=(dV (ax 0) 3 r_17)) 0 rfl (gp hs_19.symm) (dN (v':=(dV (ax 0) 3 r_17)) 26 rfl (gp hs_19.symm) (ak ?_)))
    obtain rfl:=ah hc_12
    obtain rfl:=ah hL_13
    obtain rfl:=ah hF
    exact aC (BR (bs:=([]:List Box)) (os:=([]:List Box)) (xs:=data_1) (o:=gB 3 Span.enc r_17) (.inr rfl) [] trivial rfl rfl rfl rfl rfl (by kernel_rfl) oo rfl)
   ·refine ay rfl hc_16 (av (af (af (aa (ae (vI limit_4) wz rfl (ae (vB (limit_4 == 0)) wz rfl (ak ?_)))))))
    rcases au hc_12 with⟨hc_20,hc_12⟩ | ⟨hc_20,hc_12⟩
    ·refine aB rfl hc_20 (af (aa (ae (dV (ax 0) 3 data_1) wz rfl (ae (vI a_2) wz rfl (ae (vI b_3) wz rfl (ae (.fn 177 []) wz rfl ?_))))))
     cases hc_12
    ·refine ay rfl hc_20 (av (af (af (aa (ae (vB true) wz rfl (ae (vB false) wz rfl (ak (ay rfl rfl (av (af (aa (ae (dV (ax 0) 3 data_1) wz rfl (ae (vI a_2) wz rfl (ae (vI b_3) wz rfl (ae (.fn 177 []) wz rfl ?_)))))))))))))))
     cases hc_12
 ·rintro s_11 ho_ sl_ H_ hp_ hq_
  subst ho_
  show wm _ _ _ _ _ _ _ _
  obtain rfl:=ah hF
  exact Cf (H0:=([((ax 0),gB 3 Span.enc data_1)]:Hp)) (sl':=envS []) hq_ (BR (bs:=([]:List Box)) (os:=([]:List Box)) (xs:=data_1) (o:=gB 3 Span.enc data_1) (.inl rfl) [] trivial rfl rfl rfl rfl rfl (by kernel_rfl) oo rfl)
theorem je {x_1:(List Span)} {r:(List Span)} (hF:bZ x_1=some r) :
  FnM Tryz.prog 171 [(dV (ax 0) 3 x_1),(.fn 177 [])] (([]:List Box)++gI 3 Span.enc x_1) (.tup []) (([]:List Box).map some++gT x_1 (gB 3 Span.enc r)):=by
 refine FnM.of_wHv ⟨Tryz.prog,14,[],[]⟩ rfl Tryz.func171 rfl rfl (Nat.le_of_ble_eq_true rfl) (by kernel_rfl) ?_
 unfold bZ at hF
 refine af (aa (ae (dV (ax 0) 3 x_1) wz rfl (Ay sG rfl wz (ae (vI (x_1.length:Int)) wz rfl (ak (aa (ae (dV (ax 0) 3 x_1) wz rfl (ae (vI (x_1.length:Int)) wz rfl (ae (vI (x_1.length:Int)) wz rfl (mG un3 ED rfl wz ?_))))))))))
 obtain ⟨r_3,hr_4,hF⟩:=bind_some hF
 refine aG (uB hr_4) rfl hb167 rfl rfl rfl rfl wz (ae (.fn 177 []) wz rfl ?_)
 obtain ⟨r_5,hr_6,hF⟩:=bind_some hF
 obtain ⟨_,hs_7,hF⟩:=bind_some hF
 replace hs_7:=nQ hs_7
 refine mW 0 [] 0 0 il ft (kG hr_6) rfl hb229 rfl rfl rfl (by kernel_rfl) rfl (.inr (.inl rfl)) rfl (by kernel_rfl) (by kernel_rfl) (by kernel_rfl) (by kernel_rfl) rfl (by decide) (by kernel_rfl) oo (yw hs_7) wz ([((ax 0),gB 3 Span.enc r_5)]:Hp) (by kernel_rfl) (dN (v':=(dV (ax 0) 3 r_5)) 0 rfl (gp hs_7.symm) (dN (v':=(dV (ax 0) 3 r_5)) 5 rfl (gp hs_7.symm) (dN (v':=(dV (ax 0) 3 r_5)) 7 rfl (gp hs_7.symm) (ak ?_))))
 show wm _ _ _ _ _ _ _ _
 obtain rfl:=ah hF
 exact BR (bs:=([]:List Box)) (os:=([]:List Box)) (xs:=x_1) (o:=gB 3 Span.enc r_5) (.inl rfl) [] trivial rfl rfl rfl rfl rfl (by kernel_rfl) oo rfl
theorem wM {l_1:(List Entry)} {p_2:Player} {atv_3:Int} {r:(List Span)} (hF:nz l_1 p_2 atv_3=some r) :
  FnM Tryz.prog 96 [(vL Entry.enc l_1),(.d (.agg (Player.enc p_2))),(vI atv_3)] [] (vL Span.enc r) []:=by
 refine FnM.of_wH ⟨Tryz.prog,18,[],[]⟩ rfl Tryz.func96 rfl rfl (Nat.le_of_ble_eq_true rfl) (by kernel_rfl) ?_
 unfold nz at hF
 refine af (aa (dR 0 (.inl rfl) [(vS p_2.Key),(vS p_2.Screen),(vI p_2.Zone),(vL eS p_2.Tags)] rfl rfl wz (fun n_4=>ae .nil wz rfl (ak (af (aa (ae (vL Entry.enc l_1) wz rfl (aA 0 0 il ft tN vX rfl rfl (.d (.agg (Player.enc p_2))) rfl wz (ae (vI atv_3) wz rfl (ae (vI atv_3) wz rfl (ae (vI (w64 (atv_3 + 1))) wz rfl (ae (.d (.agg (Window.enc (⟨atv_3,(w64 (atv_3 + 1))⟩:Window)))) wz (by kernel_rfl) ?_))))))))))))
 obtain ⟨r_5,hr_6,hF⟩:=bind_some hF
 refine Gq [] (rD hr_6) rfl M3 rfl (by kernel_rfl) (by kernel_rfl) (by kernel_rfl) (by kernel_rfl) (by kernel_rfl) rfl (by decide) (by kernel_rfl) wz ([(n_4,some (.cells 4 [(vS p_2.Key),(vS p_2.Screen),(vI p_2.Zone),(vL eS p_2.Tags)]))]:Hp) (fun _=>by kernel_rfl) (fun n_8=>ae (gV n_8 3 r_5) wz rfl (ak (af (aa (ae (gV n_8 3 r_5) wz rfl ?_)))))
 obtain ⟨r_9,hr_10,hF⟩:=bind_some hF
 obtain ⟨_,hs_11,hF⟩:=bind_some hF
 replace hs_11:=nQ hs_11
 refine mW 0 [] 1 0 il ft (je hr_10) rfl hb171 rfl rfl rfl (by kernel_rfl) rfl (.inl rfl) rfl (by kernel_rfl) (by kernel_rfl) (by kernel_rfl) (by kernel_rfl) rfl (by decide) (by kernel_rfl) oo (yw hs_11) wz ([(n_4,some (.cells 4 [(vS p_2.Key),(vS p_2.Screen),(vI p_2.Zone),(vL eS p_2.Tags)])),(n_8,gB 3 Span.enc r_9)]:Hp) (by kernel_rfl) (dN (v':=(gV n_8 3 r_9)) 14 rfl (jW hs_11.symm) (dN (v':=(gV n_8 3 r_9)) 15 rfl (jW hs_11.symm) (dN (v':=(gV n_8 3 r_9)) 7 rfl (jW hs_11.symm) (ak (af (aa (ae (gV n_8 3 r_9) wz rfl (ae (gV n_8 3 r_9) wz rfl (ak (iB 1 rfl (dX 6 1 rfl rfl (dX 7 1 rfl rfl (dX 14 1 rfl rfl (dX 15 1 rfl rfl (dX 17 1 rfl rfl ?_)))))))))))))))
 obtain rfl:=ah hF
 exact aC (aO (.inr rfl) [(vL Span.enc r_9)] ⟨rfl,trivial⟩ rfl rfl rfl)
theorem CB {l_1:(List Entry)} {p_2:Player} {atv_3:Int} {r:ByteArray×Bool×Int} (hF:pU l_1 p_2 atv_3=some r) :
  FnM Tryz.prog 35 [(vL Entry.enc l_1),(.d (.agg (Player.enc p_2))),(vI atv_3)] [] (.tup [(vS r.1),(vB r.2.1),(vI r.2.2)]) []:=by
 refine FnM.of_wH ⟨Tryz.prog,32,[],[]⟩ rfl Tryz.func35 rfl rfl (Nat.le_of_ble_eq_true rfl) (by kernel_rfl) ?_
 unfold pU at hF
 refine af (aa (dR 0 (.inl rfl) [(vS p_2.Key),(vS p_2.Screen),(vI p_2.Zone),(vL eS p_2.Tags)] rfl rfl wz (fun n_4=>ae (vS (⟨#[]⟩:ByteArray)) wz rfl (ae (vB false) wz rfl (ae (vI 0) wz rfl (ak (af (af (aa (ae (vL Entry.enc l_1) wz rfl (aA 0 0 il ft tN vX rfl rfl (.d (.agg (Player.enc p_2))) rfl wz (ae (vI atv_3) wz rfl ?_))))))))))))
 obtain ⟨r_5,hr_6,hF⟩:=bind_some hF
 refine aG (nH hr_6) rfl hb95 rfl rfl rfl rfl wz (ae (vI r_5) wz rfl (ak (af (aa (ae (vI r_5) wz rfl (ae (vB (r_5 != 0)) wz rfl (ak ?_)))))))
 rcases au hF with⟨hc_7,hF⟩ | ⟨hc_7,hF⟩
 ·refine aB rfl hc_7 (af (aa (ae (vI r_5) wz rfl (ae (vS (⟨#[]⟩:ByteArray)) wz rfl (ae (vB false) wz rfl (ae (vI r_5) wz rfl (ak ?_)))))))
  obtain rfl:=ah hF
  exact aC (aO (.inr rfl) [(vS (⟨#[]⟩:ByteArray)),(vB false),(vI r_5)] ⟨rfl,⟨rfl,⟨rfl,trivial⟩⟩⟩ rfl rfl rfl)
 ·refine ay rfl hc_7 (av (af (aa (ae (vL Entry.enc l_1) wz rfl (aA 0 0 il ft tN vX rfl rfl (.d (.agg (Player.enc p_2))) rfl wz (ae (vI atv_3) wz rfl ?_))))))
  obtain ⟨r_8,hr_9,hF⟩:=bind_some hF
  refine aG (wM hr_9) rfl hb96 rfl rfl rfl rfl wz (ae (vL Span.enc r_8) wz rfl (ak (af (af (aa (ae (vL Span.enc r_8) wz rfl (cz sG rfl wz (ae (vB ((r_8.length:Int) == 0)) wz rfl (ak ?_)))))))))
  rcases au hF with⟨hc_10,hF⟩ | ⟨hc_10,hF⟩
  ·refine aB rfl hc_10 (af (aa (ae (vS (⟨#[]⟩:ByteArray)) wz rfl (ae (vB false) wz rfl (ae (vI 0) wz rfl (ak ?_))))))
   obtain rfl:=ah hF
   exact aC (aO (.inr rfl) [(vS (⟨#[]⟩:ByteArray)),(vB false),(vI 0)] ⟨rfl,⟨rfl,⟨rfl,trivial⟩⟩⟩ rfl rfl rfl)
  ·refine ay rfl hc_10 (av (af (aa (ae (vL Span.enc r_8) wz rfl ?_))))
   obtain ⟨y_11,hy_12,hF⟩:=bind_some hF
   refine dL mO rfl rfl hy_12 rfl wz (jg xA rfl [dP Entry.enc y_11.f_e,.int .i64 y_11.f_time.From,.int .i64 y_11.f_time.To] rfl rfl wz (bG Fh E8 rfl (.d (dP Entry.enc y_11.f_e)) rfl wz ?_))
   obtain ⟨y_13,hy_14,hF⟩:=bind_some hF
   refine dN (v':=(.d (.ptr [.str y_13.Key,.str y_13.Item,.int .i64 y_13.Version,.int .i64 y_13.First,.int .i64 y_13.Last,.int .i64 y_13.Every,.int .i64 y_13.Days,dl eI y_13.Except,.int .i64 y_13.From,.int .i64 y_13.To,.int .i64 y_13.Prio,dl eS y_13.Tags,.bool y_13.Gone]))) 28 rfl (uX (enc:=Entry.enc) (y:=y_13) hy_14) (ae (.d (.ptr [.str y_13.Key,.str y_13.Item,.int .i64 y_13.Version,.int .i64 y_13.First,.int .i64 y_13.Last,.int .i64 y_13.Every,.int .i64 y_13.Days,dl eI y_13.Except,.int .i64 y_13.From,.int .i64 y_13.To,.int .i64 y_13.Prio,dl eS y_13.Tags,.bool y_13.Gone])) wz rfl (jg rZ rfl [.str y_13.Key,.str y_13.Item,.int .i64 y_13.Version,.int .i64 y_13.First,.int .i64 y_13.Last,.int .i64 y_13.Every,.int .i64 y_13.Days,dl eI y_13.Except,.int .i64 y_13.From,.int .i64 y_13.To,.int .i64 y_13.Prio,dl eS y_13.Tags,.bool y_13.Gone] rfl rfl wz (bG sz9 ag9 rfl (vS y_13.Key) rfl wz (ae (vS y_13.Key) wz rfl (ae (vB true) wz rfl (ae (vI 0) wz rfl (ak ?_)))))))
   obtain rfl:=ah hF
   exact aC (aO (.inr rfl) [(vS y_13.Key),(vB true),(vI 0)] ⟨rfl,⟨rfl,⟨rfl,trivial⟩⟩⟩ rfl rfl rfl)
theorem BP {l_1:(List Entry)} {p_2:Player} {atv_3:Int} {r:(List ByteArray)×Int} (hF:nX l_1 p_2 atv_3=some r) :
  FnM Tryz.prog 36 [(vL Entry.enc l_1),(.d (.agg (Player.enc p_2))),(vI atv_3)] [] (.tup [(vL eS r.1),(vI r.2)]) []:=by
 refine FnM.of_wH ⟨Tryz.prog,38,[],[]⟩ rfl Tryz.func36 rfl rfl (Nat.le_of_ble_eq_true rfl) (by kernel_rfl) ?_
 unfold nX at hF
 refine af (aa (dR 0 (.inl rfl) [(vS p_2.Key),(vS p_2.Screen),(vI p_2.Zone),(vL eS p_2.Tags)] rfl rfl wz (fun n_4=>ae .nil wz rfl (ae (vI 0) wz rfl (ak (af (af (aa (ae (vL Entry.enc l_1) wz rfl (aA 0 0 il ft tN vX rfl rfl (.d (.agg (Player.enc p_2))) rfl wz (ae (vI atv_3) wz rfl ?_)))))))))))
 obtain ⟨r_5,hr_6,hF⟩:=bind_some hF
 refine aG (nH hr_6) rfl hb95 rfl rfl rfl rfl wz (ae (vI r_5) wz rfl (ak (af (aa (ae (vI r_5) wz rfl (ae (vB (r_5 != 0)) wz rfl (ak ?_)))))))
 rcases au hF with⟨hc_7,hF⟩ | ⟨hc_7,hF⟩
 ·refine aB rfl hc_7 (af (aa (ae (vI r_5) wz rfl (ae .nil wz rfl (ae (vI r_5) wz rfl (ak ?_))))))
  obtain rfl:=ah hF
  exact aC (aO (.inr rfl) [.nil,(vI r_5)] ⟨rfl,⟨rfl,trivial⟩⟩ rfl rfl rfl)
 ·refine ay rfl hc_7 (av (af (aa (ae .nil wz rfl (ak (af (af (aa (ae (vL Entry.enc l_1) wz rfl (aA 0 0 il ft tN vX rfl rfl (.d (.agg (Player.enc p_2))) rfl wz (ae (vI atv_3) wz rfl ?_)))))))))))
  obtain ⟨r_8,hr_9,hF⟩:=bind_some hF
  refine aG (wM hr_9) rfl hb96 rfl rfl rfl rfl wz (cz sG rfl wz (ae (vI 0) wz rfl (ak (lT (fun n_16 => ?_)))))
  obtain ⟨o_21,hj_22,hF⟩:=bind_some hF
  obtain ⟨hn_14,hj_22⟩:=bA hj_22
  refine aH (β:=((List ByteArray))×Nm) (fun p=>(fun (s_15:(List ByteArray)) (n_18:Nm)=>([(9,(gV n_18 1 s_15))]:List (Nat×V))) p.1 p.2) (fun p=>(fun (s_15:(List ByteArray)) (n_18:Nm)=>([(n_4,some (.cells 4 [(vS p_2.Key),(vS p_2.Screen),(vI p_2.Zone),(vL eS p_2.Tags)])),(n_18,gB 1 eS s_15)]:Hp)) p.1 p.2) (fun p=>o_21 = .go p.1) ?_ ?_
  ·refine aF (aV (β:=Nat×(List Span)×((List ByteArray))×Nm) (fun p=>(fun (k_10:Nat) (l_11:List Span) (s_15:(List ByteArray)) (n_18:Nm)=>([(9,(gV n_18 1 s_15)),(22,(vL Span.enc r_8)),(23,(vI (r_8.length:Int))),(24,(vI (k_10:Int)))]:List (Nat×V))) p.1 p.2.1 p.2.2.1 p.2.2.2) (fun p=>(fun (k_10:Nat) (l_11:List Span) (s_15:(List ByteArray)) (n_18:Nm)=>([(n_4,some (.cells 4 [(vS p_2.Key),(vS p_2.Screen),(vI p_2.Zone),(vL eS p_2.Tags)])),(n_18,gB 1 eS s_15)]:Hp)) p.1 p.2.1 p.2.2.1 p.2.2.2) (fun p=>forR (fun k x s=>kJ k x s) p.2.1 p.1 p.2.2.1=some o_21∧(r_8).drop p.1=p.2.1) (fun p=>p.2.1.length) (0,r_8,([]:List ByteArray),n_16) ⟨hj_22,rfl⟩ rfl (aJ rfl) ?_)
   rintro ⟨k_10,l_11,s_15,n_18⟩ ⟨hL_20,hD_13⟩
   dsimp only at hL_20 hD_13
   cases l_11 with
   | nil =>
    obtain rfl:=ah hL_20
    refine af (aa (ae (vB (decide ((k_10:Int) < (r_8.length:Int)))) wz rfl (ak ?_)))
    refine af (ay rfl (drop_nil hD_13) (aQ ?_))
    exact aR (s_15,n_18) rfl rfl (aJ rfl)
   | cons x_12 l_11 =>
    obtain ⟨c_,hc_19,hL_20⟩:=bind_some hL_20
    refine af (aa (ae (vB (decide ((k_10:Int) < (r_8.length:Int)))) wz rfl (ak ?_)))
    refine af (aB rfl (bI hD_13) (av ?_))
    unfold kJ at hc_19
    refine af (aF (af (aa (dL mO rfl rfl (bP hD_13) rfl wz (bG iO oD rfl (.d (.agg (Span.enc x_12))) rfl wz (dm 0 (.inl rfl) F4 rfl wz (fun n_23=>eY 0 il ft 2 iO rfl rfl [(.d (dP Entry.enc x_12.f_e)),(vI x_12.f_time.From),(vI x_12.f_time.To)] (xC rfl (bC (kz _ _) (bC rfl (bC rfl rfl))) rfl rfl) wz (ak (aa (ae (gV n_18 1 s_15) wz rfl (aI xA rfl 0 rfl wz (aA 0 2 il ft Fh E8 rfl rfl (.d (dP Entry.enc x_12.f_e)) rfl wz ?_))))))))))))
    obtain ⟨y_24,hy_25,hc_19⟩:=bind_some hc_19
    refine dN (v':=(.d (.ptr [.str y_24.Key,.str y_24.Item,.int .i64 y_24.Version,.int .i64 y_24.First,.int .i64 y_24.Last,.int .i64 y_24.Every,.int .i64 y_24.Days,dl eI y_24.Except,.int .i64 y_24.From,.int .i64 y_24.To,.int .i64 y_24.Prio,dl eS y_24.Tags,.bool y_24.Gone]))) 30 rfl (uX (enc:=Entry.enc) (y:=y_24) hy_25) (ae (.d (.ptr [.str y_24.Key,.str y_24.Item,.int .i64 y_24.Version,.int .i64 y_24.First,.int .i64 y_24.Last,.int .i64 y_24.Every,.int .i64 y_24.Days,dl eI y_24.Except,.int .i64 y_24.From,.int .i64 y_24.To,.int .i64 y_24.Prio,dl eS y_24.Tags,.bool y_24.Gone])) wz rfl (jg rZ rfl [.str y_24.Key,.str y_24.Item,.int .i64 y_24.Version,.int .i64 y_24.First,.int .i64 y_24.Last,.int .i64 y_24.Every,.int .i64 y_24.Days,dl eI y_24.Except,.int .i64 y_24.From,.int .i64 y_24.To,.int .i64 y_24.Prio,dl eS y_24.Tags,.bool y_24.Gone] rfl rfl wz (bG sz9 ag9 rfl (vS y_24.Key) rfl wz (eG (([y_24.Key]:List ByteArray).map eS) uQ IQ rfl rfl rfl rfl rfl wz ?_))))
    obtain ⟨a_26,hz_27,hc_19⟩:=bind_some hc_19
    refine kX 0 il ft (i:=1) el79 el79 sz9 z9 rfl (by decide) by9 (by decide) (fun _=>rfl) rfl rfl rfl hz_27 wz (fun n_28=>ae (gV n_28 1 a_26) wz rfl (ak (aa (fJ (bK hD_13 hn_14) wz rfl (ae (vI ((k_10 + 1:Nat):Int)) wz rfl (ak ?_))))))
    obtain rfl:=ah hc_19
    exact aP (k_10 + 1,l_11,a_26,n_28) ⟨hL_20,aW hD_13⟩ (Nat.lt_succ_self _) rfl (aJ rfl)
  ·rintro ⟨s_15,n_18⟩ ho_ sl_ H_ hp_ hq_
   subst ho_
   refine aL _ hp_ hq_ (af (aa (ae (gV n_18 1 s_15) wz rfl (ae (gV n_18 1 s_15) wz rfl (ae (vI 0) wz rfl (ak (iB 1 rfl (dX 6 1 rfl rfl (dX 9 1 rfl rfl (dX 37 1 rfl rfl ?_))))))))))
   obtain rfl:=ah hF
   exact aC (aO (.inr rfl) [(vL eS s_15),(vI 0)] ⟨rfl,⟨rfl,trivial⟩⟩ rfl rfl rfl)
theorem zk {l_1:(List Int)} {r:Int} (hF:oG l_1=some r) :
  FnM Tryz.prog 14 [(vL eI l_1)] [] (vI r) []:=by
 refine FnM.of_wH ⟨Tryz.prog,15,[],[]⟩ rfl Tryz.func14 rfl rfl (Nat.le_of_ble_eq_true rfl) (by kernel_rfl) ?_
 unfold oG at hF
 refine af (aa (ae (vI 0) wz rfl (ak (af (af (aa (ae (vL eI l_1) wz rfl (cz un140 rfl wz (ae (vI 0) wz rfl (ak ?_))))))))))
 obtain ⟨o_10,hj_11,hF⟩:=bind_some hF
 obtain ⟨hn_6,hj_11⟩:=bA hj_11
 refine aH (β:=(Unit)) (fun (s_7:Unit)=>([]:List (Nat×V))) (fun (s_7:Unit)=>([]:Hp)) (fun p=>o_10 = .go p) ?_ ?_
 ·refine aF (aV (β:=Nat×(List Int)×(Unit)) (fun p=>(fun (k_2:Nat) (l_3:List Int) (s_7:Unit)=>([(5,(vL eI l_1)),(6,(vI (l_1.length:Int))),(7,(vI (k_2:Int)))]:List (Nat×V))) p.1 p.2.1 p.2.2) (fun p=>(fun (k_2:Nat) (l_3:List Int) (s_7:Unit)=>([]:Hp)) p.1 p.2.1 p.2.2) (fun p=>forR (fun k x s=>uG k x s) p.2.1 p.1 p.2.2=some o_10∧(l_1).drop p.1=p.2.1) (fun p=>p.2.1.length) (0,l_1,()) ⟨hj_11,rfl⟩ rfl (aJ rfl) ?_)
  rintro ⟨k_2,l_3,s_7⟩ ⟨hL_9,hD_5⟩
  dsimp only at hL_9 hD_5
  cases l_3 with
  | nil =>
   obtain rfl:=ah hL_9
   refine af (aa (ae (vB (decide ((k_2:Int) < (l_1.length:Int)))) wz rfl (ak ?_)))
   refine af (ay rfl (drop_nil hD_5) (aQ ?_))
   exact aR (s_7) rfl rfl (aJ rfl)
  | cons x_4 l_3 =>
   obtain ⟨c_,hc_8,hL_9⟩:=bind_some hL_9
   refine af (aa (ae (vB (decide ((k_2:Int) < (l_1.length:Int)))) wz rfl (ak ?_)))
   refine af (aB rfl (bI hD_5) (av ?_))
   unfold uG at hc_8
   refine af (aF (af (aa (dL M0 rfl rfl (bP hD_5) rfl wz (bG sz35 ag35 rfl (vI x_4) rfl wz (ae (vI x_4) wz rfl (ak (af (aa (ae (vI x_4) wz rfl (ae (vB (x_4 != 0)) wz rfl (ak ?_))))))))))))
   rcases au hc_8 with⟨hc_12,hc_8⟩ | ⟨hc_12,hc_8⟩
   ·refine aB rfl hc_12 (af (aa (ae (vI x_4) wz rfl (ae (vI x_4) wz rfl (ak ?_)))))
    obtain rfl:=ah hc_8
    obtain rfl:=ah hL_9
    obtain rfl:=ah hF
    exact aC (aO (.inr rfl) [(vI x_4)] ⟨rfl,trivial⟩ rfl rfl rfl)
   ·refine ay rfl hc_12 (av (aa (fJ (bK hD_5 hn_6) wz rfl (ae (vI ((k_2 + 1:Nat):Int)) wz rfl (ak ?_)))))
    obtain rfl:=ah hc_8
    exact aP (k_2 + 1,l_3,()) ⟨hL_9,aW hD_5⟩ (Nat.lt_succ_self _) rfl (aJ rfl)
 ·rintro s_7 ho_ sl_ H_ hp_ hq_
  subst ho_
  refine aL _ hp_ hq_ (af (aa (ae (vI 0) wz rfl (ak ?_))))
  obtain rfl:=ah hF
  exact aC (aO (.inr rfl) [(vI 0)] ⟨rfl,trivial⟩ rfl rfl rfl)
end Go.Proofs.YtjhcehhmdmbleaaGreatDoor.Law

